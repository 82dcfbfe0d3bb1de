/-
 Sizes of the program's data.
-/
import Derived.Test.YtdmiplkjdpcbeaaGreatN3
namespace Go.D
end Go.D
namespace Go.D
noncomputable section
def sB (p:G.Note→Bool) (l:List G.Note):Nat:=(l.filter fun m=>AA m&&p m).length
def cB (p:G.Note→Bool) (l:List G.Note):Bool:=l.any fun m=>AA m&&p m
def lC (n m:G.Note):Bool:=m.Kind==1&&m.Cn==n.Cn
def OF (n m:G.Note):Bool:=m.Kind==1&&m.Cn==n.Cn&&m.Id==n.Id
def VD (n m:G.Note):Bool:=m.Kind==2&&m.Id==n.Id&&m.Cn==n.Cn&&m.Sn==n.Sn
def jE (n m:G.Note):Bool:=m.Kind==4&&m.Cn==n.Cn
def PF (n m:G.Note):Bool:=m.Kind==4&&m.Id==n.Id&&m.Cn==n.Cn&&m.Sn==n.Sn&&m.Key==n.Key
def QF (n m:G.Note):Bool:=m.Kind==3&&m.Cn==n.Cn
def oF (n m:G.Note):Bool:=m.Kind==7&&m.Sn==n.Sn&&m.Body==n.Body
def YG (n m:G.Note):Bool:=m.Role==n.Role&&m.Sn==n.Sn
def sF (o n m:G.Note):Bool:=m.Kind==5&&YG o m&&m.Epoch==n.Epoch&&m.Seq==n.Seq&&m.Body==n.Body
def pF (o n m:G.Note):Bool:=m.Kind==6&&YG o m&&m.Epoch==n.Epoch&&m.Seq==n.Seq
def qF (o n m:G.Note):Bool:=m.Kind==6&&YG o m&&decide (m.Epoch>n.Epoch)&&decide (sA .i64 n.Now m.Now>5)
def jL (role epoch:Int) (n m:G.Note):Bool:=m.Kind==10&&m.Role==role&&m.Sn==n.Sn&&m.Epoch==epoch
def YE (o n m:G.Note):Bool:=jL n.Role n.Epoch o m
def tF (o n m:G.Note):Bool:=jL 0 (sA .i64 n.Epoch 1) o m
def uF (o n m:G.Note):Bool:=jL 1 n.Epoch o m&&m.Key==n.Key
def KD (n m:G.Note):Bool:=m.Kind==8&&m.Sn==n.Sn&&m.Body==n.Body
def rF (n m:G.Note):Bool:=m.Kind==9&&m.Body==n.Body
def PB (n m:G.Note):Bool:=m.Kind==7&&m.Body==n.Body
def PE (n m:G.Note):Bool:=m.Sn==n.Sn&&MC m.A n.A&&iA (sA .i64 n.Now m.Now) 0 6
def RB (p:G.Note→G.Note→Bool) (m n:G.Note):Option Bool:=pt (wt m≤bA∧wt n≤bA) (p n m)
def OD (p:G.Note→G.Note→G.Note→Bool) (m o n:G.Note):Option Bool:=pt (wt m≤bA∧wt o≤bA∧wt n≤bA) (p o n m)
def kC (p:G.Note→G.Note→Bool) (l:List G.Note) (n:G.Note):Option Int:=pt (wt l≤bA∧wt n≤bA) (sB (p n) l:Int)
def gD (p:G.Note→G.Note→G.Note→Bool) (l:List G.Note) (n:G.Note × G.Note):Option Int:=pt (wt l≤bA∧wt n.1≤bA∧wt n.2≤bA) (sB (p n.1 n.2) l:Int)
def wG (m:G.Note) (role epoch:Int) (n:G.Note):Option Bool:=pt (wt m≤bA∧wt n≤bA) (jL role epoch n m)
def FJ (l:List G.Note) (n:G.Note):Bool:=sB (lC n) l==1&&sB (OF n) l==1&&cB (VD n) l&&!cB (jE n) l
def DK (l:List G.Note) (n:G.Note):Bool:=cB (sF n n) l&&!cB (pF n n) l&&!cB (qF n n) l
def GM (l:List G.Note) (n:G.Note):Bool:=!cB (YE n n) l&&bif n.Role==1 then n.Epoch==1||cB (tF n n) l else cB (uF n n) l
def kE (l:List G.Note) (n:G.Note) (i:Nat):Bool:=(l[i]?).any fun m=>AA m&&PB n m&&PE n m&&cB (KD n) (l.drop (i+1))
def WG (l:List G.Note) (n:G.Note):Bool:=sB (PB n) l==1&&YA l.length (kE l n)&&!cB (rF n) l
def lF (p:List G.Note→G.Note→Bool) (l:List G.Note) (n:G.Note):Option Bool:=pt (wt l≤bA∧wt n≤bA) (p l n)
def zeT (l:List G.Note) (n:G.Note):Bool:=
 bif n.Kind==4 then FJ l n else bif n.Kind==3 then cB (PF n) l&&!cB (QF n) l else bif n.Kind==6 then DK l n else bif n.Kind==10 then GM l n
 else bif n.Kind==8 then cB (oF n) l else bif n.Kind==9 then WG l n else true
def zH (l:List G.Note) (i:Nat):Bool:=(l[i]?).any fun n=>AA n&&(GI (l.take i) n.Sn||zeT (l.take i) n)
def zI (l:List G.Note) (i:Int):Bool:=decide (0≤i)&&zH l i.toNat
def mF (l:List G.Note) (i:Int):Option Bool:=pt (wt l≤bA) (zI l i)
def qI (l:List G.Note):Bool:=!(YA l.length fun i=>!zH l i)
def fG (l:List G.Note):Option Bool:=pt (wt l≤bA) (qI l)
end
end Go.D
namespace Go.D
open Option renaming bind → ob
noncomputable section
def FL.raw (a0:List G.Note) (a1:Int):Option Bool:=
 let r1:Bool:=iA a1 0 (sA .i64 (a0.length:Int) 1)
 cond (!r1)
 (some false)
 (ob (pA a0 a1) fun e2=>
 cond (!(AA e2))
 (some false)
 (cond (decide (0≤(0:Int))&&decide ((0:Int)≤a1)&&decide (a1≤(a0.length:Int))) (let l3:List G.Note:=List.take ((a1 - 0).toNat) (List.drop 0 a0)
 ob (HI l3 e2.Sn) fun r4=>
 cond (r4)
 (some true)
 (aA (fun (y5:Int × Int)=>
 aA (fun (y87:Bool)=>
 cond (y87)
 (aA (fun (y95:Bool)=>
 some y95) fun k96=>
 cond (y5.1==1)
 (k96 (y5.2==1))
 (k96 false))
 (cond (e2.Kind==10)
 (aA (fun (y97:Bool)=>
 some y97) fun k98=>
 cond (y5.2==1)
 (k98 true)
 (cond (e2.Role==1)
 (k98 (e2.Epoch==1))
 (k98 false)))
 (some true))) fun k88=>
 cond (e2.Kind==4)
 (k88 (e2.Kind==4))
 (aA (fun (y89:Bool)=>
 k88 y89) fun k90=>
 cond (e2.Kind==3)
 (k90 (e2.Kind==3))
 (aA (fun (y91:Bool)=>
 k90 y91) fun k92=>
 cond (e2.Kind==6)
 (k92 (e2.Kind==6))
 (aA (fun (y93:Bool)=>
 k92 y93) fun k94=>
 cond (e2.Kind==8)
 (k94 (e2.Kind==8))
 (k94 (e2.Kind==9)))))) fun k6=>
 tA FU (fun (x7:Int × Int × Int × Int) k8=>
 cond (decide (x7.2.2.2<a1))
 (aA (fun (y9:Int × Int × Int)=>
 k8 (y9.1,y9.2.1,y9.2.2,(cA .i64 x7.2.2.2 1))) fun k10=>
 ob (pA a0 x7.2.2.2) fun e11=>
 cond (!(AA e11))
 (k10 (x7.1,x7.2.1,x7.2.2.1))
 (ob (eB e11.Sn e2.Sn) fun r12=>
 ob (eB e11.Cn e2.Cn) fun r13=>
 ob (eB e11.Body e2.Body) fun r14=>
 aA (fun (y15:Int × Int × Int)=>
 k10 (y15.1,y15.2.1,y15.2.2)) fun k16=>
 cond (e2.Kind==4)
 (aA (fun (y17:Bool)=>
 aA (fun (y19:Int)=>
 aA (fun (y21:Bool)=>
 aA (fun (y23:Int)=>
 aA (fun (y25:Bool)=>
 cond (y25)
 (some false)
 (k16 (y19,y23,x7.2.2.1))) fun k26=>
 cond (e11.Kind==4)
 (k26 r13)
 (k26 false)) fun k24=>
 cond (y21)
 (k24 1)
 (k24 x7.2.1)) fun k22=>
 cond (e11.Kind==2)
 (cond (r13)
 (cond (r12)
 (k22 (e11.Id==e2.Id))
 (k22 false))
 (k22 false))
 (k22 false)) fun k20=>
 cond (y17)
 (cond (e11.Id !=e2.Id)
 (some false)
 (k20 (cA .i64 x7.1 1)))
 (k20 x7.1)) fun k18=>
 cond (e11.Kind==1)
 (k18 r13)
 (k18 false))
 (aA (fun (y27:Int × Int × Int)=>
 k16 (y27.1,y27.2.1,y27.2.2)) fun k28=>
 cond (e2.Kind==3)
 (aA (fun (y29:Bool)=>
 aA (fun (y32:Int)=>
 aA (fun (y34:Bool)=>
 cond (y34)
 (some false)
 (k28 (1,y32,x7.2.2.1))) fun k35=>
 cond (e11.Kind==3)
 (k35 r13)
 (k35 false)) fun k33=>
 cond (y29)
 (k33 1)
 (k33 x7.2.1)) fun k30=>
 cond (e11.Kind==4)
 (cond (e11.Id==e2.Id)
 (cond (r13)
 (cond (r12)
 (ob (eB e11.Key e2.Key) fun r31=>
 k30 r31)
 (k30 false))
 (k30 false))
 (k30 false))
 (k30 false))
 (aA (fun (y36:Int × Int × Int)=>
 k28 (y36.1,y36.2.1,y36.2.2)) fun k37=>
 cond (e2.Kind==6)
 (aA (fun (y38:Bool)=>
 aA (fun (y40:Int)=>
 aA (fun (y42:Bool)=>
 aA (fun (y44:Unit)=>
 k37 (1,y40,x7.2.2.1)) fun k45=>
 cond (y42)
 (aA (fun (y46:Bool)=>
 cond (y46)
 (some false)
 (aA (fun (y48:Bool)=>
 cond (y48)
 (some false)
 (k45 ())) fun k49=>
 cond (decide (e11.Epoch>e2.Epoch))
 (k49 (decide ((sA .i64 e2.Now e11.Now)>5)))
 (k49 false))) fun k47=>
 cond (e11.Epoch==e2.Epoch)
 (k47 (e11.Seq==e2.Seq))
 (k47 false))
 (k45 ())) fun k43=>
 cond (e11.Kind==6)
 (cond (e11.Role==e2.Role)
 (k43 r12)
 (k43 false))
 (k43 false)) fun k41=>
 cond (y38)
 (k41 1)
 (k41 x7.2.1)) fun k39=>
 cond (e11.Kind==5)
 (cond (e11.Role==e2.Role)
 (cond (r12)
 (cond (e11.Epoch==e2.Epoch)
 (cond (e11.Seq==e2.Seq)
 (k39 r14)
 (k39 false))
 (k39 false))
 (k39 false))
 (k39 false))
 (k39 false))
 (aA (fun (y50:Int × Int × Int)=>
 k37 (y50.1,y50.2.1,y50.2.2)) fun k51=>
 cond (e2.Kind==10)
 (aA (fun (y52:Bool)=>
 cond (y52)
 (k10 (1,x7.2.1,x7.2.2.1))
 (aA (fun (y54:Bool)=>
 cond (y54)
 (some false)
 (aA (fun (y56:Bool)=>
 aA (fun (y58:Int)=>
 aA (fun (y60:Bool)=>
 aA (fun (y63:Int)=>
 k51 (1,y63,x7.2.2.1)) fun k64=>
 cond (y60)
 (k64 1)
 (k64 y58)) fun k61=>
 cond (e2.Role==0)
 (cond (e11.Role==1)
 (cond (e11.Epoch==e2.Epoch)
 (ob (eB e11.Key e2.Key) fun r62=>
 k61 r62)
 (k61 false))
 (k61 false))
 (k61 false)) fun k59=>
 cond (y56)
 (k59 1)
 (k59 x7.2.1)) fun k57=>
 cond (e2.Role==1)
 (cond (e11.Role==0)
 (k57 (e11.Epoch==(sA .i64 e2.Epoch 1)))
 (k57 false))
 (k57 false))) fun k55=>
 cond (e11.Role==e2.Role)
 (k55 (e11.Epoch==e2.Epoch))
 (k55 false))) fun k53=>
 cond (e11.Kind !=10)
 (k53 true)
 (k53 (!r12)))
 (aA (fun (y65:Int × Int × Int)=>
 k51 (y65.1,y65.2.1,y65.2.2)) fun k66=>
 cond (e2.Kind==8)
 (aA (fun (y67:Bool)=>
 aA (fun (y69:Int)=>
 k66 (1,y69,x7.2.2.1)) fun k70=>
 cond (y67)
 (k70 1)
 (k70 x7.2.1)) fun k68=>
 cond (e11.Kind==7)
 (cond (r12)
 (k68 r14)
 (k68 false))
 (k68 false))
 (aA (fun (y71:Int × Int × Int)=>
 k66 (y71.1,y71.2.1,y71.2.2)) fun k72=>
 cond (e2.Kind==9)
 (aA (fun (y73:Bool)=>
 aA (fun (y75:Int × Int)=>
 aA (fun (y81:Bool)=>
 aA (fun (y83:Int)=>
 aA (fun (y85:Bool)=>
 cond (y85)
 (some false)
 (k72 (y75.1,y83,y75.2))) fun k86=>
 cond (e11.Kind==9)
 (k86 r14)
 (k86 false)) fun k84=>
 cond (y81)
 (k84 1)
 (k84 x7.2.1)) fun k82=>
 cond (e11.Kind==8)
 (cond (r12)
 (cond (r14)
 (k82 (decide (y75.2≥0)))
 (k82 false))
 (k82 false))
 (k82 false)) fun k76=>
 cond (y73)
 (aA (fun (y77:Bool)=>
 cond (y77)
 (some false)
 (k76 ((cA .i64 x7.1 1),x7.2.2.2))) fun k78=>
 cond (!r12)
 (k78 true)
 (let x79:Bool:=!(cond (e11.A.Host==e2.A.Host) (cond (e11.A.Port==e2.A.Port) (true) false) false)
 cond (x79)
 (k78 true)
 (let r80:Bool:=iA (sA .i64 e2.Now e11.Now) 0 6
 k78 (!r80))))
 (k76 (x7.1,x7.2.2.1))) fun k74=>
 cond (e11.Kind==7)
 (k74 r14)
 (k74 false))
 (k72 (x7.1,x7.2.1,x7.2.2.1)))))))))
 (k6 (x7.1,x7.2.1))) (0,0,(-1),0))) none))
def EN.raw (a0:G.Note) (a1:G.Note):Option Bool:=
 aA (fun (y1:Bool)=>
 some y1) fun k2=>
 cond (a0.Kind==1)
 (ob (eB a0.Cn a1.Cn) fun r3=>
 k2 r3)
 (k2 false)
def FN.raw (a0:G.Note) (a1:G.Note):Option Bool:=
 aA (fun (y1:Bool)=>
 some y1) fun k2=>
 cond (a0.Kind==1)
 (ob (eB a0.Cn a1.Cn) fun r3=>
 cond (r3)
 (k2 (a0.Id==a1.Id))
 (k2 false))
 (k2 false)
def GN.raw (a0:G.Note) (a1:G.Note):Option Bool:=
 aA (fun (y1:Bool)=>
 some y1) fun k2=>
 cond (a0.Kind==2)
 (cond (a0.Id==a1.Id)
 (ob (eB a0.Cn a1.Cn) fun r3=>
 cond (r3)
 (ob (eB a0.Sn a1.Sn) fun r4=>
 k2 r4)
 (k2 false))
 (k2 false))
 (k2 false)
def HN.raw (a0:G.Note) (a1:G.Note):Option Bool:=
 aA (fun (y1:Bool)=>
 some y1) fun k2=>
 cond (a0.Kind==4)
 (ob (eB a0.Cn a1.Cn) fun r3=>
 k2 r3)
 (k2 false)
def LR.raw (a0:List G.Note) (a1:G.Note):Option Int:=
 aA (fun (y1:Int)=>
 some y1) fun k2=>
 tA FU (fun (x3:Int × Int) k4=>
 cond (decide (x3.2<(a0.length:Int)))
 (ob (pA a0 x3.2) fun e5=>
 aA (fun (y6:Bool)=>
 aA (fun (y9:Int)=>
 k4 (y9,(cA .i64 x3.2 1))) fun k10=>
 cond (y6)
 (k10 (cA .i64 x3.1 1))
 (k10 x3.1)) fun k7=>
 cond ((AA e5))
 (ob (RB lC e5 a1) fun r8=>
 k7 r8)
 (k7 false))
 (k2 x3.1)) (0,0)
def MR.raw (a0:List G.Note) (a1:G.Note):Option Int:=
 aA (fun (y1:Int)=>
 some y1) fun k2=>
 tA FU (fun (x3:Int × Int) k4=>
 cond (decide (x3.2<(a0.length:Int)))
 (ob (pA a0 x3.2) fun e5=>
 aA (fun (y6:Bool)=>
 aA (fun (y9:Int)=>
 k4 (y9,(cA .i64 x3.2 1))) fun k10=>
 cond (y6)
 (k10 (cA .i64 x3.1 1))
 (k10 x3.1)) fun k7=>
 cond ((AA e5))
 (ob (RB OF e5 a1) fun r8=>
 k7 r8)
 (k7 false))
 (k2 x3.1)) (0,0)
def NR.raw (a0:List G.Note) (a1:G.Note):Option Int:=
 aA (fun (y1:Int)=>
 some y1) fun k2=>
 tA FU (fun (x3:Int × Int) k4=>
 cond (decide (x3.2<(a0.length:Int)))
 (ob (pA a0 x3.2) fun e5=>
 aA (fun (y6:Bool)=>
 aA (fun (y9:Int)=>
 k4 (y9,(cA .i64 x3.2 1))) fun k10=>
 cond (y6)
 (k10 (cA .i64 x3.1 1))
 (k10 x3.1)) fun k7=>
 cond ((AA e5))
 (ob (RB VD e5 a1) fun r8=>
 k7 r8)
 (k7 false))
 (k2 x3.1)) (0,0)
def OR.raw (a0:List G.Note) (a1:G.Note):Option Int:=
 aA (fun (y1:Int)=>
 some y1) fun k2=>
 tA FU (fun (x3:Int × Int) k4=>
 cond (decide (x3.2<(a0.length:Int)))
 (ob (pA a0 x3.2) fun e5=>
 aA (fun (y6:Bool)=>
 aA (fun (y9:Int)=>
 k4 (y9,(cA .i64 x3.2 1))) fun k10=>
 cond (y6)
 (k10 (cA .i64 x3.1 1))
 (k10 x3.1)) fun k7=>
 cond ((AA e5))
 (ob (RB jE e5 a1) fun r8=>
 k7 r8)
 (k7 false))
 (k2 x3.1)) (0,0)
def DN.raw (a0:List G.Note) (a1:G.Note):Option Bool:=
 ob (kC lC a0 a1) fun r1=>
 ob (kC OF a0 a1) fun r2=>
 ob (kC VD a0 a1) fun r3=>
 ob (kC jE a0 a1) fun r4=>
 aA (fun (y5:Bool)=>
 some y5) fun k6=>
 cond (r1==1)
 (cond (r2==1)
 (cond (decide (r3>0))
 (k6 (r4==0))
 (k6 false))
 (k6 false))
 (k6 false)
def pN.raw (a0:G.Note) (a1:G.Note):Option Bool:=
 aA (fun (y1:Bool)=>
 some y1) fun k2=>
 cond (a0.Kind==4)
 (cond (a0.Id==a1.Id)
 (ob (eB a0.Cn a1.Cn) fun r3=>
 cond (r3)
 (ob (eB a0.Sn a1.Sn) fun r4=>
 cond (r4)
 (ob (eB a0.Key a1.Key) fun r5=>
 k2 r5)
 (k2 false))
 (k2 false))
 (k2 false))
 (k2 false)
def qN.raw (a0:G.Note) (a1:G.Note):Option Bool:=
 aA (fun (y1:Bool)=>
 some y1) fun k2=>
 cond (a0.Kind==3)
 (ob (eB a0.Cn a1.Cn) fun r3=>
 k2 r3)
 (k2 false)
def wN.raw (a0:G.Note) (a1:G.Note):Option Bool:=
 aA (fun (y1:Bool)=>
 some y1) fun k2=>
 cond (a0.Role==a1.Role)
 (ob (eB a0.Sn a1.Sn) fun r3=>
 k2 r3)
 (k2 false)
def xN.raw (a0:G.Note) (a1:G.Note) (a2:G.Note):Option Bool:=
 aA (fun (y1:Bool)=>
 some y1) fun k2=>
 cond (a0.Kind==5)
 (ob (RB YG a0 a1) fun r3=>
 cond (r3)
 (cond (a0.Epoch==a2.Epoch)
 (cond (a0.Seq==a2.Seq)
 (ob (eB a0.Body a2.Body) fun r4=>
 k2 r4)
 (k2 false))
 (k2 false))
 (k2 false))
 (k2 false)
def yN.raw (a0:G.Note) (a1:G.Note) (a2:G.Note):Option Bool:=
 aA (fun (y1:Bool)=>
 some y1) fun k2=>
 cond (a0.Kind==6)
 (ob (RB YG a0 a1) fun r3=>
 cond (r3)
 (cond (a0.Epoch==a2.Epoch)
 (k2 (a0.Seq==a2.Seq))
 (k2 false))
 (k2 false))
 (k2 false)
def zN.raw (a0:G.Note) (a1:G.Note) (a2:G.Note):Option Bool:=
 aA (fun (y1:Bool)=>
 some y1) fun k2=>
 cond (a0.Kind==6)
 (ob (RB YG a0 a1) fun r3=>
 cond (r3)
 (cond (decide (a0.Epoch>a2.Epoch))
 (k2 (decide ((sA .i64 a2.Now a0.Now)>5)))
 (k2 false))
 (k2 false))
 (k2 false)
def GR.raw (a0:List G.Note) (a1:G.Note × G.Note):Option Int:=
 aA (fun (y1:Int)=>
 some y1) fun k2=>
 tA FU (fun (x3:Int × Int) k4=>
 cond (decide (x3.2<(a0.length:Int)))
 (ob (pA a0 x3.2) fun e5=>
 aA (fun (y6:Bool)=>
 aA (fun (y9:Int)=>
 k4 (y9,(cA .i64 x3.2 1))) fun k10=>
 cond (y6)
 (k10 (cA .i64 x3.1 1))
 (k10 x3.1)) fun k7=>
 cond ((AA e5))
 (ob (OD sF e5 a1.1 a1.2) fun r8=>
 k7 r8)
 (k7 false))
 (k2 x3.1)) (0,0)
def HR.raw (a0:List G.Note) (a1:G.Note × G.Note):Option Int:=
 aA (fun (y1:Int)=>
 some y1) fun k2=>
 tA FU (fun (x3:Int × Int) k4=>
 cond (decide (x3.2<(a0.length:Int)))
 (ob (pA a0 x3.2) fun e5=>
 aA (fun (y6:Bool)=>
 aA (fun (y9:Int)=>
 k4 (y9,(cA .i64 x3.2 1))) fun k10=>
 cond (y6)
 (k10 (cA .i64 x3.1 1))
 (k10 x3.1)) fun k7=>
 cond ((AA e5))
 (ob (OD pF e5 a1.1 a1.2) fun r8=>
 k7 r8)
 (k7 false))
 (k2 x3.1)) (0,0)
def IR.raw (a0:List G.Note) (a1:G.Note × G.Note):Option Int:=
 aA (fun (y1:Int)=>
 some y1) fun k2=>
 tA FU (fun (x3:Int × Int) k4=>
 cond (decide (x3.2<(a0.length:Int)))
 (ob (pA a0 x3.2) fun e5=>
 aA (fun (y6:Bool)=>
 aA (fun (y9:Int)=>
 k4 (y9,(cA .i64 x3.2 1))) fun k10=>
 cond (y6)
 (k10 (cA .i64 x3.1 1))
 (k10 x3.1)) fun k7=>
 cond ((AA e5))
 (ob (OD qF e5 a1.1 a1.2) fun r8=>
 k7 r8)
 (k7 false))
 (k2 x3.1)) (0,0)
def vN.raw (a0:List G.Note) (a1:G.Note):Option Bool:=
 ob (gD sF a0 (a1,a1)) fun r1=>
 ob (gD pF a0 (a1,a1)) fun r2=>
 ob (gD qF a0 (a1,a1)) fun r3=>
 aA (fun (y4:Bool)=>
 some y4) fun k5=>
 cond (decide (r1>0))
 (cond (r2==0)
 (k5 (r3==0))
 (k5 false))
 (k5 false)
def JN.raw (a0:G.Note) (a1:Int) (a2:Int) (a3:G.Note):Option Bool:=
 aA (fun (y1:Bool)=>
 some y1) fun k2=>
 cond (a0.Kind==10)
 (cond (a0.Role==a1)
 (ob (eB a0.Sn a3.Sn) fun r3=>
 cond (r3)
 (k2 (a0.Epoch==a2))
 (k2 false))
 (k2 false))
 (k2 false)
def KN.raw (a0:G.Note) (a1:G.Note) (a2:G.Note):Option Bool:=
 ob (wG a0 a2.Role a2.Epoch a1) fun r1=>
 some r1
def LN.raw (a0:G.Note) (a1:G.Note) (a2:G.Note):Option Bool:=
 ob (wG a0 0 (sA .i64 a2.Epoch 1) a1) fun r1=>
 some r1
def MN.raw (a0:G.Note) (a1:G.Note) (a2:G.Note):Option Bool:=
 aA (fun (y1:Bool)=>
 some y1) fun k2=>
 ob (wG a0 1 a2.Epoch a1) fun r3=>
 cond (r3)
 (ob (eB a0.Key a2.Key) fun r4=>
 k2 r4)
 (k2 false)
def PR.raw (a0:List G.Note) (a1:G.Note × G.Note):Option Int:=
 aA (fun (y1:Int)=>
 some y1) fun k2=>
 tA FU (fun (x3:Int × Int) k4=>
 cond (decide (x3.2<(a0.length:Int)))
 (ob (pA a0 x3.2) fun e5=>
 aA (fun (y6:Bool)=>
 aA (fun (y9:Int)=>
 k4 (y9,(cA .i64 x3.2 1))) fun k10=>
 cond (y6)
 (k10 (cA .i64 x3.1 1))
 (k10 x3.1)) fun k7=>
 cond ((AA e5))
 (ob (OD YE e5 a1.1 a1.2) fun r8=>
 k7 r8)
 (k7 false))
 (k2 x3.1)) (0,0)
def QR.raw (a0:List G.Note) (a1:G.Note × G.Note):Option Int:=
 aA (fun (y1:Int)=>
 some y1) fun k2=>
 tA FU (fun (x3:Int × Int) k4=>
 cond (decide (x3.2<(a0.length:Int)))
 (ob (pA a0 x3.2) fun e5=>
 aA (fun (y6:Bool)=>
 aA (fun (y9:Int)=>
 k4 (y9,(cA .i64 x3.2 1))) fun k10=>
 cond (y6)
 (k10 (cA .i64 x3.1 1))
 (k10 x3.1)) fun k7=>
 cond ((AA e5))
 (ob (OD tF e5 a1.1 a1.2) fun r8=>
 k7 r8)
 (k7 false))
 (k2 x3.1)) (0,0)
def RR.raw (a0:List G.Note) (a1:G.Note × G.Note):Option Int:=
 aA (fun (y1:Int)=>
 some y1) fun k2=>
 tA FU (fun (x3:Int × Int) k4=>
 cond (decide (x3.2<(a0.length:Int)))
 (ob (pA a0 x3.2) fun e5=>
 aA (fun (y6:Bool)=>
 aA (fun (y9:Int)=>
 k4 (y9,(cA .i64 x3.2 1))) fun k10=>
 cond (y6)
 (k10 (cA .i64 x3.1 1))
 (k10 x3.1)) fun k7=>
 cond ((AA e5))
 (ob (OD uF e5 a1.1 a1.2) fun r8=>
 k7 r8)
 (k7 false))
 (k2 x3.1)) (0,0)
def IN.raw (a0:List G.Note) (a1:G.Note):Option Bool:=
 ob (gD YE a0 (a1,a1)) fun r1=>
 cond (a1.Role==1)
 (ob (gD tF a0 (a1,a1)) fun r2=>
 aA (fun (y3:Bool)=>
 some y3) fun k4=>
 cond (r1==0)
 (cond (a1.Epoch==1)
 (k4 true)
 (k4 (decide (r2>0))))
 (k4 false))
 (ob (gD uF a0 (a1,a1)) fun r5=>
 aA (fun (y6:Bool)=>
 some y6) fun k7=>
 cond (r1==0)
 (k7 (decide (r5>0)))
 (k7 false))
def rN.raw (a0:G.Note) (a1:G.Note):Option Bool:=
 aA (fun (y1:Bool)=>
 some y1) fun k2=>
 cond (a0.Kind==7)
 (ob (eB a0.Sn a1.Sn) fun r3=>
 cond (r3)
 (ob (eB a0.Body a1.Body) fun r4=>
 k2 r4)
 (k2 false))
 (k2 false)
def BN.raw (a0:G.Note) (a1:G.Note):Option Bool:=
 aA (fun (y1:Bool)=>
 some y1) fun k2=>
 cond (a0.Kind==8)
 (ob (eB a0.Sn a1.Sn) fun r3=>
 cond (r3)
 (ob (eB a0.Body a1.Body) fun r4=>
 k2 r4)
 (k2 false))
 (k2 false)
def CN.raw (a0:G.Note) (a1:G.Note):Option Bool:=
 aA (fun (y1:Bool)=>
 some y1) fun k2=>
 cond (a0.Kind==9)
 (ob (eB a0.Body a1.Body) fun r3=>
 k2 r3)
 (k2 false)
def JR.raw (a0:List G.Note) (a1:G.Note):Option Int:=
 aA (fun (y1:Int)=>
 some y1) fun k2=>
 tA FU (fun (x3:Int × Int) k4=>
 cond (decide (x3.2<(a0.length:Int)))
 (ob (pA a0 x3.2) fun e5=>
 aA (fun (y6:Bool)=>
 aA (fun (y9:Int)=>
 k4 (y9,(cA .i64 x3.2 1))) fun k10=>
 cond (y6)
 (k10 (cA .i64 x3.1 1))
 (k10 x3.1)) fun k7=>
 cond ((AA e5))
 (ob (RB KD e5 a1) fun r8=>
 k7 r8)
 (k7 false))
 (k2 x3.1)) (0,0)
def KR.raw (a0:List G.Note) (a1:G.Note):Option Int:=
 aA (fun (y1:Int)=>
 some y1) fun k2=>
 tA FU (fun (x3:Int × Int) k4=>
 cond (decide (x3.2<(a0.length:Int)))
 (ob (pA a0 x3.2) fun e5=>
 aA (fun (y6:Bool)=>
 aA (fun (y9:Int)=>
 k4 (y9,(cA .i64 x3.2 1))) fun k10=>
 cond (y6)
 (k10 (cA .i64 x3.1 1))
 (k10 x3.1)) fun k7=>
 cond ((AA e5))
 (ob (RB rF e5 a1) fun r8=>
 k7 r8)
 (k7 false))
 (k2 x3.1)) (0,0)
def ZK.raw (a0:List G.Note) (a1:G.Note):Option Bool:=
 aA (fun (y1:Int × Int)=>
 cond (y1.1 !=1)
 (some false)
 (ob (pA a0 y1.2) fun e11=>
 cond (decide (0≤(cA .i64 y1.2 1))&&decide ((cA .i64 y1.2 1)≤(a0.length:Int))&&decide ((a0.length:Int)≤(a0.length:Int))) (let l12:List G.Note:=List.take (((a0.length:Int) - (cA .i64 y1.2 1)).toNat) (List.drop ((cA .i64 y1.2 1).toNat) a0)
 ob (kC KD l12 a1) fun r13=>
 ob (kC rF a0 a1) fun r14=>
 aA (fun (y15:Bool)=>
 some y15) fun k16=>
 ob (eB e11.Sn a1.Sn) fun r17=>
 cond (r17)
 (let x18:Bool:=cond (e11.A.Host==a1.A.Host) (cond (e11.A.Port==a1.A.Port) (true) false) false
 cond (x18)
 (let r19:Bool:=iA (sA .i64 a1.Now e11.Now) 0 6
 cond (r19)
 (cond (decide (r13>0))
 (k16 (r14==0))
 (k16 false))
 (k16 false))
 (k16 false))
 (k16 false)) none)) fun k2=>
 tA FU (fun (x3:Int × Int × Int) k4=>
 cond (decide (x3.2.2<(a0.length:Int)))
 (ob (pA a0 x3.2.2) fun e5=>
 aA (fun (y6:Bool)=>
 aA (fun (y9:Int × Int)=>
 k4 (y9.1,y9.2,(cA .i64 x3.2.2 1))) fun k10=>
 cond (y6)
 (k10 ((cA .i64 x3.1 1),x3.2.2))
 (k10 (x3.1,x3.2.1))) fun k7=>
 cond ((AA e5))
 (cond (e5.Kind==7)
 (ob (eB e5.Body a1.Body) fun r8=>
 k7 r8)
 (k7 false))
 (k7 false))
 (k2 (x3.1,x3.2.1))) (0,0,0)
def DR.raw (a0:List G.Note) (a1:G.Note):Option Int:=
 aA (fun (y1:Int)=>
 some y1) fun k2=>
 tA FU (fun (x3:Int × Int) k4=>
 cond (decide (x3.2<(a0.length:Int)))
 (ob (pA a0 x3.2) fun e5=>
 aA (fun (y6:Bool)=>
 aA (fun (y9:Int)=>
 k4 (y9,(cA .i64 x3.2 1))) fun k10=>
 cond (y6)
 (k10 (cA .i64 x3.1 1))
 (k10 x3.1)) fun k7=>
 cond ((AA e5))
 (ob (RB PF e5 a1) fun r8=>
 k7 r8)
 (k7 false))
 (k2 x3.1)) (0,0)
def ER.raw (a0:List G.Note) (a1:G.Note):Option Int:=
 aA (fun (y1:Int)=>
 some y1) fun k2=>
 tA FU (fun (x3:Int × Int) k4=>
 cond (decide (x3.2<(a0.length:Int)))
 (ob (pA a0 x3.2) fun e5=>
 aA (fun (y6:Bool)=>
 aA (fun (y9:Int)=>
 k4 (y9,(cA .i64 x3.2 1))) fun k10=>
 cond (y6)
 (k10 (cA .i64 x3.1 1))
 (k10 x3.1)) fun k7=>
 cond ((AA e5))
 (ob (RB QF e5 a1) fun r8=>
 k7 r8)
 (k7 false))
 (k2 x3.1)) (0,0)
def FR.raw (a0:List G.Note) (a1:G.Note):Option Int:=
 aA (fun (y1:Int)=>
 some y1) fun k2=>
 tA FU (fun (x3:Int × Int) k4=>
 cond (decide (x3.2<(a0.length:Int)))
 (ob (pA a0 x3.2) fun e5=>
 aA (fun (y6:Bool)=>
 aA (fun (y9:Int)=>
 k4 (y9,(cA .i64 x3.2 1))) fun k10=>
 cond (y6)
 (k10 (cA .i64 x3.1 1))
 (k10 x3.1)) fun k7=>
 cond ((AA e5))
 (ob (RB oF e5 a1) fun r8=>
 k7 r8)
 (k7 false))
 (k2 x3.1)) (0,0)
def KK.raw (a0:List G.Note) (a1:Int):Option Bool:=
 aA (fun (y1:Bool)=>
 cond (y1)
 (some false)
 (ob (pA a0 a1) fun e4=>
 cond (decide (0≤(0:Int))&&decide ((0:Int)≤a1)&&decide (a1≤(a0.length:Int))) (let l5:List G.Note:=List.take ((a1 - 0).toNat) (List.drop 0 a0)
 ob (HI l5 e4.Sn) fun r6=>
 cond (r6)
 (some true)
 (cond (e4.Kind==4)
 (ob (lF FJ l5 e4) fun r7=>
 some r7)
 (cond (e4.Kind==3)
 (ob (kC PF l5 e4) fun r8=>
 ob (kC QF l5 e4) fun r9=>
 aA (fun (y10:Bool)=>
 some y10) fun k11=>
 cond (decide (r8>0))
 (k11 (r9==0))
 (k11 false))
 (cond (e4.Kind==6)
 (ob (lF DK l5 e4) fun r12=>
 some r12)
 (cond (e4.Kind==10)
 (ob (lF GM l5 e4) fun r13=>
 some r13)
 (cond (e4.Kind==8)
 (ob (kC oF l5 e4) fun r14=>
 some (decide (r14>0)))
 (cond (e4.Kind==9)
 (ob (lF WG l5 e4) fun r15=>
 some r15)
 (some true)))))))) none)) fun k2=>
 cond (decide (a1<0))
 (k2 true)
 (cond (decide (a1≥(a0.length:Int)))
 (k2 true)
 (ob (pA a0 a1) fun e3=>
 k2 (!(AA e3))))
def lT.raw (a0:List G.Note):Option Bool:=
 aA (fun (y1:Unit)=>
 some true) fun k2=>
 tA FU (fun (x3:Int) k4=>
 cond (decide (x3<(a0.length:Int)))
 (ob (mF a0 x3) fun r5=>
 cond (!r5)
 (some false)
 (k4 (cA .i64 x3 1)))
 (k2 ())) 0
def xR.raw (a0:List G.Note):Option Bool:=
 aA (fun (y1:Unit)=>
 some true) fun k2=>
 tA FU (fun (x3:Int) k4=>
 cond (decide (x3<(a0.length:Int)))
 (ob (mF a0 x3) fun r5=>
 cond (!r5)
 (some false)
 (k4 (cA .i64 x3 1)))
 (k2 ())) 0
end
end Go.D
namespace Go.D
end Go.D
namespace Go.D
theorem OG (p:G.Note→Bool) (x:G.Note) (l:List G.Note):sB p (x :: l)=(bif AA x&&p x then 1 else 0)+sB p l:=by
 simp only [sB,List.filter_cons]
 cases AA x&&p x <;> simp [Nat.add_comm]
theorem zax (p:G.Note→Bool):sB p []=0:=rfl
theorem zoV (p:G.Note→Bool) (l:List G.Note):sB p l≤l.length:=List.length_filter_le _ _
theorem nE (p:G.Note→Bool) (x:G.Note) (l:List G.Note):cB p (x :: l)=((AA x&&p x)||cB p l):=rfl
theorem NP (p:G.Note→Bool):cB p []=false:=rfl
theorem xK (p:G.Note→Bool):∀ l,decide (0<sB p l)=cB p l
 | []=>rfl
 | x :: l=>by
  rw [OG,nE, ← xK p l]
  cases AA x&&p x
  ·simp
  ·simp;omega
theorem ZM (p:G.Note→Bool) (l:List G.Note):decide ((sB p l:Int)>0)=cB p l:=by
 rw [← xK,decide_eq_decide];omega
theorem aN (p:G.Note→Bool) (l:List G.Note):((sB p l:Int)==0)= !cB p l:=by
 rw [← xK]
 by_cases h:sB p l=0
 ·simp [h]
 ·rw [decide_eq_true (by omega:0<sB p l),beq_false_of_ne (by omega)];rfl
theorem zoW (p:G.Note→Bool) (l:List G.Note):((sB p l:Int)==1)=(sB p l==1):=by
 rw [Bool.eq_iff_iff,beq_iff_eq,beq_iff_eq];omega
theorem qE (p:G.Note→Bool) (l:List G.Note) (h:wt l≤bA) {q:G.Note→Option Bool} (hq:∀ m,wt m≤bA→q m=some (p m)):
  (aA (fun (y1:Int)=>some y1) fun k2=>tA FU (fun (x3:Int × Int) k4=>cond (decide (x3.2<(l.length:Int))) (Option.bind (pA l x3.2) fun e5=>
   aA (fun (y6:Bool)=>aA (fun (y9:Int)=>k4 (y9,(cA .i64 x3.2 1))) fun k10=>cond (y6) (k10 (cA .i64 x3.1 1)) (k10 x3.1)) fun k7=>
   cond ((AA e5)) (Option.bind (q e5) fun r8=>k7 r8) (k7 false)) (k2 x3.1)) (0,0))=some (sB p l:Int):=by
 have hl:=HD h
 simp only [aA]
 have key:=TE (f:=fun (x3:Int × Int) k4=>cond (decide (x3.2<(l.length:Int))) (Option.bind (pA l x3.2) fun e5=>
   cond ((AA e5)) (Option.bind (q e5) fun r8=>cond r8 (k4 ((cA .i64 x3.1 1),(cA .i64 x3.2 1))) (k4 (x3.1,(cA .i64 x3.2 1)))) (cond false (k4 ((cA .i64 x3.1 1),(cA .i64 x3.2 1))) (k4 (x3.1,(cA .i64 x3.2 1))))) (some x3.1))
  (g:=fun x:Int × Int=>some (x.1+(sB p (l.drop x.2.toNat):Int))) (fun x=>0≤x.1∧x.1≤x.2∧x.2≤l.length) (fun x=>l.length - x.2.toNat) (fun x hx k hk=>by
  obtain ⟨s,i⟩:=x
  obtain ⟨h0,h1,h2⟩:=hx
  simp only at h0 h1 h2
  obtain ⟨j,rfl⟩:=Int.eq_ofNat_of_zero_le (Int.le_trans h0 h1)
  obtain ⟨c,rfl⟩:=Int.eq_ofNat_of_zero_le h0
  simp only [Int.toNat_natCast]
  by_cases hj:j<l.length
  ·have hm:=mD hj
   rw [kI l hj,OG]
   simp only [TB hj,cond_true,nB hj,dB,hq _ (show wt l[j]≤bA by omega)]
   have e1:cA .i64 (j:Int) 1=((j+1:Nat):Int):=XC j (by omega)
   have e2:cA .i64 (c:Int) 1=((c+1:Nat):Int):=XC c (by omega)
   rw [e1,e2]
   have k0:=hk ((c:Int),((j+1:Nat):Int)) ⟨by show (0:Int)≤(c:Int);omega,by show (c:Int)≤((j+1:Nat):Int);omega,by show ((j+1:Nat):Int)≤l.length;omega⟩ (by simp only [Int.toNat_natCast];omega)
   have k1:=hk (((c+1:Nat):Int),((j+1:Nat):Int)) ⟨by show (0:Int)≤((c+1:Nat):Int);omega,by show ((c+1:Nat):Int)≤((j+1:Nat):Int);omega,by show ((j+1:Nat):Int)≤l.length;omega⟩ (by simp only [Int.toNat_natCast];omega)
   rw [k0,k1]
   simp only [Int.toNat_natCast]
   cases AA l[j] <;> cases p l[j] <;> simp <;> omega
  ·have:j=l.length:=by omega
   subst this
   simp only [dC,cond_false,List.drop_length,zax]
   simp) (x:=(0,0)) ⟨Int.le_refl _,Int.le_refl _,by show (0:Int)≤l.length;omega⟩ (by show l.length - Int.toNat 0<2^64;unfold maxLen at hl;simp;omega)
 refine Eq.trans key ?_
 simp
theorem zB {m:G.Note} (h:wt m≤bA):wt m.Cn≤bA∧wt m.Sn≤bA∧wt m.Body≤bA∧wt m.Key≤bA:=by
 rw [AG] at h;omega
theorem EN.ok {x:lA [.v .Note, .pt .Note]} (_:rA [.v .Note, .pt .Note] x) {r:Bool}:RB lC x.1 x.2=some r→EN.raw x.1 x.2=some r:=HA fun h=>by
 have h1:=zB h.1
 have h2:=zB h.2
 simp (disch:=omega) only [EN.raw,aA,kB]
 simp only [jB,Bool.cond_false_right,lC]
theorem LR.ok {g:Nat} {x:lA [.sl .Note, .c1 g .Note]} (_:rA [.sl .Note, .c1 g .Note] x) {r:Int}:kC lC x.1 x.2=some r→LR.raw x.1 x.2=some r:=HA fun h=>qE (lC x.2) x.1 h.1 fun m hm=>XA ⟨hm,h.2⟩
theorem FN.ok {x:lA [.v .Note, .pt .Note]} (_:rA [.v .Note, .pt .Note] x) {r:Bool}:RB OF x.1 x.2=some r→FN.raw x.1 x.2=some r:=HA fun h=>by
 have h1:=zB h.1
 have h2:=zB h.2
 simp (disch:=omega) only [FN.raw,aA,kB]
 simp only [jB,Bool.cond_false_right,OF,Bool.and_assoc]
theorem MR.ok {g:Nat} {x:lA [.sl .Note, .c1 g .Note]} (_:rA [.sl .Note, .c1 g .Note] x) {r:Int}:kC OF x.1 x.2=some r→MR.raw x.1 x.2=some r:=HA fun h=>qE (OF x.2) x.1 h.1 fun m hm=>XA ⟨hm,h.2⟩
theorem GN.ok {x:lA [.v .Note, .pt .Note]} (_:rA [.v .Note, .pt .Note] x) {r:Bool}:RB VD x.1 x.2=some r→GN.raw x.1 x.2=some r:=HA fun h=>by
 have h1:=zB h.1
 have h2:=zB h.2
 simp (disch:=omega) only [GN.raw,aA,kB]
 simp only [jB,Bool.cond_false_right,VD,Bool.and_assoc]
theorem NR.ok {g:Nat} {x:lA [.sl .Note, .c1 g .Note]} (_:rA [.sl .Note, .c1 g .Note] x) {r:Int}:kC VD x.1 x.2=some r→NR.raw x.1 x.2=some r:=HA fun h=>qE (VD x.2) x.1 h.1 fun m hm=>XA ⟨hm,h.2⟩
theorem HN.ok {x:lA [.v .Note, .pt .Note]} (_:rA [.v .Note, .pt .Note] x) {r:Bool}:RB jE x.1 x.2=some r→HN.raw x.1 x.2=some r:=HA fun h=>by
 have h1:=zB h.1
 have h2:=zB h.2
 simp (disch:=omega) only [HN.raw,aA,kB]
 simp only [jB,Bool.cond_false_right,jE]
theorem OR.ok {g:Nat} {x:lA [.sl .Note, .c1 g .Note]} (_:rA [.sl .Note, .c1 g .Note] x) {r:Int}:kC jE x.1 x.2=some r→OR.raw x.1 x.2=some r:=HA fun h=>qE (jE x.2) x.1 h.1 fun m hm=>XA ⟨hm,h.2⟩
theorem pN.ok {x:lA [.v .Note, .pt .Note]} (_:rA [.v .Note, .pt .Note] x) {r:Bool}:RB PF x.1 x.2=some r→pN.raw x.1 x.2=some r:=HA fun h=>by
 have h1:=zB h.1
 have h2:=zB h.2
 simp (disch:=omega) only [pN.raw,aA,kB]
 simp only [jB,Bool.cond_false_right,PF,Bool.and_assoc]
theorem DR.ok {g:Nat} {x:lA [.sl .Note, .c1 g .Note]} (_:rA [.sl .Note, .c1 g .Note] x) {r:Int}:kC PF x.1 x.2=some r→DR.raw x.1 x.2=some r:=HA fun h=>qE (PF x.2) x.1 h.1 fun m hm=>XA ⟨hm,h.2⟩
theorem qN.ok {x:lA [.v .Note, .pt .Note]} (_:rA [.v .Note, .pt .Note] x) {r:Bool}:RB QF x.1 x.2=some r→qN.raw x.1 x.2=some r:=HA fun h=>by
 have h1:=zB h.1
 have h2:=zB h.2
 simp (disch:=omega) only [qN.raw,aA,kB]
 simp only [jB,Bool.cond_false_right,QF]
theorem ER.ok {g:Nat} {x:lA [.sl .Note, .c1 g .Note]} (_:rA [.sl .Note, .c1 g .Note] x) {r:Int}:kC QF x.1 x.2=some r→ER.raw x.1 x.2=some r:=HA fun h=>qE (QF x.2) x.1 h.1 fun m hm=>XA ⟨hm,h.2⟩
theorem rN.ok {x:lA [.v .Note, .pt .Note]} (_:rA [.v .Note, .pt .Note] x) {r:Bool}:RB oF x.1 x.2=some r→rN.raw x.1 x.2=some r:=HA fun h=>by
 have h1:=zB h.1
 have h2:=zB h.2
 simp (disch:=omega) only [rN.raw,aA,kB]
 simp only [jB,Bool.cond_false_right,oF,Bool.and_assoc]
theorem FR.ok {g:Nat} {x:lA [.sl .Note, .c1 g .Note]} (_:rA [.sl .Note, .c1 g .Note] x) {r:Int}:kC oF x.1 x.2=some r→FR.raw x.1 x.2=some r:=HA fun h=>qE (oF x.2) x.1 h.1 fun m hm=>XA ⟨hm,h.2⟩
theorem BN.ok {x:lA [.v .Note, .pt .Note]} (_:rA [.v .Note, .pt .Note] x) {r:Bool}:RB KD x.1 x.2=some r→BN.raw x.1 x.2=some r:=HA fun h=>by
 have h1:=zB h.1
 have h2:=zB h.2
 simp (disch:=omega) only [BN.raw,aA,kB]
 simp only [jB,Bool.cond_false_right,KD,Bool.and_assoc]
theorem JR.ok {g:Nat} {x:lA [.sl .Note, .c1 g .Note]} (_:rA [.sl .Note, .c1 g .Note] x) {r:Int}:kC KD x.1 x.2=some r→JR.raw x.1 x.2=some r:=HA fun h=>qE (KD x.2) x.1 h.1 fun m hm=>XA ⟨hm,h.2⟩
theorem CN.ok {x:lA [.v .Note, .pt .Note]} (_:rA [.v .Note, .pt .Note] x) {r:Bool}:RB rF x.1 x.2=some r→CN.raw x.1 x.2=some r:=HA fun h=>by
 have h1:=zB h.1
 have h2:=zB h.2
 simp (disch:=omega) only [CN.raw,aA,kB]
 simp only [jB,Bool.cond_false_right,rF]
theorem KR.ok {g:Nat} {x:lA [.sl .Note, .c1 g .Note]} (_:rA [.sl .Note, .c1 g .Note] x) {r:Int}:kC rF x.1 x.2=some r→KR.raw x.1 x.2=some r:=HA fun h=>qE (rF x.2) x.1 h.1 fun m hm=>XA ⟨hm,h.2⟩
theorem wN.ok {x:lA [.v .Note, .pt .Note]} (_:rA [.v .Note, .pt .Note] x) {r:Bool}:RB YG x.1 x.2=some r→wN.raw x.1 x.2=some r:=HA fun h=>by
 have h1:=zB h.1
 have h2:=zB h.2
 simp (disch:=omega) only [wN.raw,aA,kB]
 simp only [jB,Bool.cond_false_right,YG]
theorem JN.ok {x:lA [.v .Note, .v .int, .v .int, .pt .Note]} (_:rA [.v .Note, .v .int, .v .int, .pt .Note] x) {r:Bool}:wG x.1 x.2.1 x.2.2.1 x.2.2.2=some r→JN.raw x.1 x.2.1 x.2.2.1 x.2.2.2=some r:=HA fun h=>by
 have h1:=zB h.1
 have h2:=zB h.2
 simp (disch:=omega) only [JN.raw,aA,kB]
 simp only [jB,Bool.cond_false_right,jL,Bool.and_assoc]
theorem xN.ok {g:Nat} {x:lA [.v .Note, .p1 g .Note, .pt .Note]} (_:rA [.v .Note, .p1 g .Note, .pt .Note] x) {r:Bool}:OD sF x.1 x.2.1 x.2.2=some r→xN.raw x.1 x.2.1 x.2.2=some r:=HA fun h=>by
 have h1:=zB h.1
 have h2:=zB h.2.1
 have h3:=zB h.2.2
 simp only [xN.raw,aA,RB,QA (p:=wt x.1≤bA∧wt x.2.1≤bA) ⟨h.1,h.2.1⟩]
 try simp (disch:=omega) only [kB]
 simp only [jB,Bool.cond_false_right,sF,Bool.and_assoc]
theorem GR.ok {g h:Nat} {x:lA [.sl .Note, .c2 g h .Note]} (_:rA [.sl .Note, .c2 g h .Note] x) {r:Int}:gD sF x.1 x.2=some r→GR.raw x.1 x.2=some r:=HA fun h=>qE (sF x.2.1 x.2.2) x.1 h.1 fun m hm=>XA ⟨hm,h.2⟩
theorem yN.ok {g:Nat} {x:lA [.v .Note, .p1 g .Note, .pt .Note]} (_:rA [.v .Note, .p1 g .Note, .pt .Note] x) {r:Bool}:OD pF x.1 x.2.1 x.2.2=some r→yN.raw x.1 x.2.1 x.2.2=some r:=HA fun h=>by
 have h1:=zB h.1
 have h2:=zB h.2.1
 have h3:=zB h.2.2
 simp only [yN.raw,aA,RB,QA (p:=wt x.1≤bA∧wt x.2.1≤bA) ⟨h.1,h.2.1⟩]
 try simp (disch:=omega) only [kB]
 simp only [jB,Bool.cond_false_right,pF,Bool.and_assoc]
theorem HR.ok {g h:Nat} {x:lA [.sl .Note, .c2 g h .Note]} (_:rA [.sl .Note, .c2 g h .Note] x) {r:Int}:gD pF x.1 x.2=some r→HR.raw x.1 x.2=some r:=HA fun h=>qE (pF x.2.1 x.2.2) x.1 h.1 fun m hm=>XA ⟨hm,h.2⟩
theorem zN.ok {g:Nat} {x:lA [.v .Note, .p1 g .Note, .pt .Note]} (_:rA [.v .Note, .p1 g .Note, .pt .Note] x) {r:Bool}:OD qF x.1 x.2.1 x.2.2=some r→zN.raw x.1 x.2.1 x.2.2=some r:=HA fun h=>by
 have h1:=zB h.1
 have h2:=zB h.2.1
 have h3:=zB h.2.2
 simp only [zN.raw,aA,RB,QA (p:=wt x.1≤bA∧wt x.2.1≤bA) ⟨h.1,h.2.1⟩]
 try simp (disch:=omega) only [kB]
 simp only [jB,Bool.cond_false_right,qF,Bool.and_assoc]
theorem IR.ok {g h:Nat} {x:lA [.sl .Note, .c2 g h .Note]} (_:rA [.sl .Note, .c2 g h .Note] x) {r:Int}:gD qF x.1 x.2=some r→IR.raw x.1 x.2=some r:=HA fun h=>qE (qF x.2.1 x.2.2) x.1 h.1 fun m hm=>XA ⟨hm,h.2⟩
theorem KN.ok {g:Nat} {x:lA [.v .Note, .p1 g .Note, .pt .Note]} (_:rA [.v .Note, .p1 g .Note, .pt .Note] x) {r:Bool}:OD YE x.1 x.2.1 x.2.2=some r→KN.raw x.1 x.2.1 x.2.2=some r:=HA fun h=>by
 have h1:=zB h.1
 have h2:=zB h.2.1
 have h3:=zB h.2.2
 simp only [KN.raw,wG,QA (p:=wt x.1≤bA∧wt x.2.1≤bA) ⟨h.1,h.2.1⟩]
 try simp (disch:=omega) only [kB]
 simp only [YE]
theorem PR.ok {g h:Nat} {x:lA [.sl .Note, .c2 g h .Note]} (_:rA [.sl .Note, .c2 g h .Note] x) {r:Int}:gD YE x.1 x.2=some r→PR.raw x.1 x.2=some r:=HA fun h=>qE (YE x.2.1 x.2.2) x.1 h.1 fun m hm=>XA ⟨hm,h.2⟩
theorem LN.ok {g:Nat} {x:lA [.v .Note, .p1 g .Note, .pt .Note]} (_:rA [.v .Note, .p1 g .Note, .pt .Note] x) {r:Bool}:OD tF x.1 x.2.1 x.2.2=some r→LN.raw x.1 x.2.1 x.2.2=some r:=HA fun h=>by
 have h1:=zB h.1
 have h2:=zB h.2.1
 have h3:=zB h.2.2
 simp only [LN.raw,wG,QA (p:=wt x.1≤bA∧wt x.2.1≤bA) ⟨h.1,h.2.1⟩]
 try simp (disch:=omega) only [kB]
 simp only [tF]
theorem QR.ok {g h:Nat} {x:lA [.sl .Note, .c2 g h .Note]} (_:rA [.sl .Note, .c2 g h .Note] x) {r:Int}:gD tF x.1 x.2=some r→QR.raw x.1 x.2=some r:=HA fun h=>qE (tF x.2.1 x.2.2) x.1 h.1 fun m hm=>XA ⟨hm,h.2⟩
theorem MN.ok {g:Nat} {x:lA [.v .Note, .p1 g .Note, .pt .Note]} (_:rA [.v .Note, .p1 g .Note, .pt .Note] x) {r:Bool}:OD uF x.1 x.2.1 x.2.2=some r→MN.raw x.1 x.2.1 x.2.2=some r:=HA fun h=>by
 have h1:=zB h.1
 have h2:=zB h.2.1
 have h3:=zB h.2.2
 simp only [MN.raw,aA,wG,QA (p:=wt x.1≤bA∧wt x.2.1≤bA) ⟨h.1,h.2.1⟩]
 try simp (disch:=omega) only [kB]
 simp only [jB,Bool.cond_false_right,uF]
theorem RR.ok {g h:Nat} {x:lA [.sl .Note, .c2 g h .Note]} (_:rA [.sl .Note, .c2 g h .Note] x) {r:Int}:gD uF x.1 x.2=some r→RR.raw x.1 x.2=some r:=HA fun h=>qE (uF x.2.1 x.2.2) x.1 h.1 fun m hm=>XA ⟨hm,h.2⟩
theorem DN.ok {x:lA [.sl .Note, .v .Note]} (_:rA [.sl .Note, .v .Note] x) {r:Bool}:lF FJ x.1 x.2=some r→DN.raw x.1 x.2=some r:=HA fun h=>by
 simp only [DN.raw,aA,kC,QA h,ZM,aN,zoW,jB,Bool.cond_false_right,FJ,Bool.and_assoc]
theorem vN.ok {x:lA [.sl .Note, .v .Note]} (_:rA [.sl .Note, .v .Note] x) {r:Bool}:lF DK x.1 x.2=some r→vN.raw x.1 x.2=some r:=HA fun h=>by
 simp only [vN.raw,aA,gD,QA (p:=wt x.1≤bA∧wt x.2≤bA∧wt x.2≤bA) ⟨h.1,h.2,h.2⟩,ZM,aN,jB,Bool.cond_false_right,DK,Bool.and_assoc]
theorem IN.ok {x:lA [.sl .Note, .v .Note]} (_:rA [.sl .Note, .v .Note] x) {r:Bool}:lF GM x.1 x.2=some r→IN.raw x.1 x.2=some r:=HA fun h=>by
 simp only [IN.raw,aA,gD,QA (p:=wt x.1≤bA∧wt x.2≤bA∧wt x.2≤bA) ⟨h.1,h.2,h.2⟩,ZM,aN,jB,Bool.cond_false_right,Bool.cond_true_left,GM]
 cases (x.2:G.Note).Role==1 <;> rfl
def tI (p:Nat→Bool):Nat→Nat
 | 0=>0
 | i+1=>bif p i then i else tI p i
theorem zfe {p:Nat→Bool} {t:Nat} (hp:p t=true):∀ {n:Nat},t<n→(∀ j,t<j→j<n→p j=false)→tI p n=t
 | 0,h,_=>by omega
 | n+1,h,hf=>by
  rw [tI]
  by_cases e:t=n
  ·subst e;rw [hp];rfl
  ·rw [hf n (by omega) (by omega)]
   exact zfe hp (by omega) fun j h1 h2=>hf j h1 (by omega)
theorem zoY (p:G.Note→Bool) (l:List G.Note) {j:Nat} (hj:j<l.length):sB p (l.take (j+1))=sB p (l.take j)+bif AA l[j]&&p l[j] then 1 else 0:=by
 rw [EM l hj]
 simp only [sB,List.filter_append,List.length_append,List.filter_cons,List.filter_nil]
 cases AA l[j]&&p l[j] <;> rfl
theorem zei (p:G.Note→Bool):∀ (l:List G.Note),sB p l=1→∃ (t:Nat) (_:t<l.length),(AA l[t]&&p l[t])=true∧∀ (j:Nat) (hj:j<l.length),j≠t→(AA l[j]&&p l[j])=false
 | [],h=>by cases h
 | x :: l,h=>by
  rw [OG] at h
  cases hx:AA x&&p x
  ·rw [hx] at h
   obtain ⟨t,ht,h1,h2⟩:=zei p l (by simpa using h)
   refine ⟨t+1,by simpa using ht,h1,fun j hj RY=>?_⟩
   cases j with
   | zero=>exact hx
   | succ j=>exact h2 j (by simpa using hj) (by omega)
  ·rw [hx] at h
   have h0:sB p l=0:=by simpa using h
   have h0:cB p l=false:=by rw [← xK,h0];rfl
   refine ⟨0,by simp,hx,fun j hj RY=>?_⟩
   cases j with
   | zero=>exact absurd rfl RY
   | succ j=>
    have DX:j<l.length:=by simpa using hj
    cases hb:AA l[j]&&p l[j]
    ·exact hb
    ·have:cB p l=true:=List.any_eq_true.2 ⟨l[j],List.getElem_mem DX,hb⟩
     rw [h0] at this;cases this
theorem zpz {α:Type} (l:List α) {t:Nat} (h:t<l.length):List.take (((l.length:Int) - ((t+1:Nat):Int)).toNat) (List.drop (((t+1:Nat):Int).toNat) l)=l.drop (t+1):=by
 rw [Int.toNat_natCast,List.take_of_length_le]
 rw [List.length_drop];omega
theorem zqv (l:List G.Note) (n:G.Note) (h:wt l≤bA∧wt n≤bA):ZK.raw l n=some (WG l n):=by
 have hl:=HD h.1
 have hn:=zB h.2
 simp only [ZK.raw,aA,cH]
 let p:Nat→Bool:=fun i=>(l[i]?).any fun m=>AA m&&PB n m
 rw [TE (g:=fun _=>some (WG l n)) (fun x:Int × Int × Int=>∃ i:Nat,i≤l.length∧x=((sB (PB n) (l.take i):Int),(tI p i:Int),(i:Int))) (fun x=>l.length - x.2.2.toNat) (fun x hx k hk=>by
  obtain ⟨i,hi,rfl⟩:=hx
  simp only
  rcases Nat.lt_or_eq_of_le hi with RV | rfl
  ·have hb:=zB (m:=l[i]) (by have:=mD RV;omega)
   have hc:=zoV (PB n) (l.take i)
   rw [List.length_take] at hc
   have e1:cA .i64 (i:Int) 1=((i+1:Nat):Int):=XC i (by omega)
   have e2:cA .i64 (sB (PB n) (l.take i):Int) 1=((sB (PB n) (l.take i)+1:Nat):Int):=XC _ (by omega)
   have hp:p i=(AA l[i]&&PB n l[i]):=pC RV _
   have AY:=hk (((sB (PB n) (l.take (i+1)):Nat):Int),((tI p (i+1):Nat):Int),((i+1:Nat):Int)) ⟨i+1,RV,rfl⟩ (by simp only [Int.toNat_natCast];omega)
   rw [zoY _ _ RV,tI,hp] at AY
   simp only [TB RV,cond_true,nB RV,dB,kB hb.2.2.1 hn.2.2.1,e1,e2]
   have F1:PB n l[i]=(l[i].Kind==7&&l[i].Body==n.Body):=rfl
   rw [F1] at AY
   revert AY
   cases AA l[i] <;> cases l[i].Kind==7 <;> cases l[i].Body==n.Body <;> intro AY <;> exact AY
  ·simp only [dC,cond_false,List.take_length]
   by_cases h1:sB (PB n) l=1
   ·obtain ⟨t,ht,h2,h3⟩:=zei _ _ h1
    have hpt:p t=true:=by show (l[t]?).any _=true;rw [pC ht];exact h2
    have M9:tI p l.length=t:=zfe hpt ht fun j h4 h5=>by
     show (l[j]?).any _=false;rw [pC h5];exact h3 j h5 (by omega)
    have hany:YA l.length (kE l n)=(PE n l[t]&&cB (KD n) (l.drop (t+1))):=by
     have O4:kE l n t=(PE n l[t]&&cB (KD n) (l.drop (t+1))):=by
      rw [kE,pC ht,h2,Bool.true_and]
     rw [← O4]
     cases hs:kE l n t
     ·rw [ZH]
      intro j hj
      by_cases hjt:j=t
      ·subst hjt;exact hs
      ·rw [kE,pC hj,h3 j hj hjt];rfl
     ·exact EG.2 ⟨t,ht,hs⟩
    have o7:=zB (m:=l[t]) (by have:=mD ht;omega)
    have e1:cA .i64 (t:Int) 1=((t+1:Nat):Int):=XC t (by omega)
    have e3:(decide (0≤((t+1:Nat):Int))&&decide (((t+1:Nat):Int)≤(l.length:Int))&&decide ((l.length:Int)≤(l.length:Int)))=true:=by simp;omega
    rw [h1,M9]
    simp only [show (((1:Nat):Int) !=1)=false from rfl,cond_false,nB ht,dB,e1,e3,cond_true,zpz l ht,kC,
     QA (p:=wt (l.drop (t+1))≤bA∧wt n≤bA) ⟨Nat.le_trans (oH _ _) h.1,h.2⟩,QA h,ZM,aN,kB o7.2.1 hn.2.1,jB,Bool.cond_false_right,WG,h1,hany,PE]
    simp [Bool.and_assoc]
   ·have e0:((sB (PB n) l:Int) !=1)=true:=bne_iff_ne.2 (by omega)
    rw [e0,WG,beq_false_of_ne h1];rfl) (x:=((0:Int),(0:Int),(0:Int))) ⟨0,Nat.zero_le _,by simp [sB,tI]⟩ (by show l.length - Int.toNat 0<2^64;unfold maxLen at hl;simp;omega)]
theorem ZK.ok {x:lA [.sl .Note, .v .Note]} (_:rA [.sl .Note, .v .Note] x) {r:Bool}:lF WG x.1 x.2=some r→ZK.raw x.1 x.2=some r:=HA fun h=>zqv x.1 x.2 h
theorem zqn (l:List G.Note) (i:Int) (h:wt l≤bA):KK.raw l i=some (zI l i):=by
 have hl:=HD h
 simp only [KK.raw,aA,zI]
 by_cases h0:0≤i
 ·obtain ⟨j,rfl⟩:=hG h0
  have e0:decide ((j:Int)<0)=false:=decide_eq_false (by omega)
  have e1:decide ((0:Int)≤(j:Int))=true:=decide_eq_true (by omega)
  rw [e0,e1,Int.toNat_natCast,Bool.true_and,zH]
  by_cases hj:j<l.length
  ·have e2:decide ((j:Int)≥(l.length:Int))=false:=decide_eq_false (by omega)
   have hw:=mD hj
   have hn:wt l[j]≤bA:=by omega
   have hp:=zB hn
   have N4:=zgY h j
   have e3:(decide ((0:Int)≤0)&&true&&decide ((j:Int)≤(l.length:Int)))=true:=by simp;omega
   rw [e2,pC hj,e3]
   simp only [nB hj,dB,cond_true,cond_false,zaA,HI,QA (p:=wt (l.take j)≤bA∧wt l[j].Sn≤bA) ⟨N4,hp.2.1⟩,lF,kC,QA (p:=wt (l.take j)≤bA∧wt l[j]≤bA) ⟨N4,hn⟩,ZM,aN,jB,Bool.cond_false_right]
   cases AA l[j]
   ·rfl
   cases GI (l.take j) l[j].Sn <;> rfl
  ·have e2:decide ((j:Int)≥(l.length:Int))=true:=decide_eq_true (by omega)
   rw [e2,List.getElem?_eq_none (by omega)];rfl
 ·have e0:decide (i<0)=true:=decide_eq_true (by omega)
  have e1:decide (0≤i)=false:=decide_eq_false h0
  rw [e0,e1];rfl
theorem KK.ok {x:lA [.sl .Note, .v .int]} (_:rA [.sl .Note, .v .int] x) {r:Bool}:mF x.1 x.2=some r→KK.raw x.1 x.2=some r:=HA fun h=>zqn x.1 x.2 h
theorem ze0 (l:List G.Note) (h:wt l≤bA):(aA (fun (y1:Unit)=>some true) fun k2=>tA FU (fun (x3:Int) k4=>cond (decide (x3<(l.length:Int))) (Option.bind (mF l x3) fun r5=>cond (!r5) (some false) (k4 (cA .i64 x3 1))) (k2 ())) 0)=some (qI l):=by
 simp only [aA,qI]
 rw [UE l.length (HD h) (fun i=>!zH l i) (some false) (some true) (fun i k hi=>?_) (fun k=>by simp only [dC,cond_false])]
 ·cases YA _ _ <;> rfl
 ·simp only [TB hi,cond_true,mF,QA h,zI,Int.toNat_natCast]
  rw [decide_eq_true (p:=(0:Int)≤(i:Int)) (by omega),Bool.true_and]
theorem xR.ok {x:lA [.sl .Note]} (_:rA [.sl .Note] x) {r:Bool}:fG x=some r→xR.raw x=some r:=HA fun h=>ze0 x h
theorem lT.ok {x:lA [.sl .Note]} (_:rA [.sl .Note] x) {r:Bool}:fG x=some r→lT.raw x=some r:=HA fun h=>ze0 x h
end Go.D
namespace Go.D
def lD (bad:Int × Int × Int→Nat→G.Note→Bool) (up:Int × Int × Int→Nat→G.Note→Int × Int × Int) (gB:Int × Int × Int→Option Bool):List G.Note→Nat→Int × Int × Int→Option Bool
 | [],_,s=>gB s
 | x :: r,i,s=>bif bad s i x then some false else lD bad up gB r (i+1) (up s i x)
theorem zJ (l:List G.Note) (n:Nat) (hl:l.length≤maxLen) (hn:n≤l.length) (bad:Int × Int × Int→Nat→G.Note→Bool) (up:Int × Int × Int→Nat→G.Note→Int × Int × Int) (gB:Int × Int × Int→Option Bool)
  {f:Int × Int × Int × Int→(Int × Int × Int × Int→Option Bool)→Option Bool}
  (hf:∀ (j:Nat) (h:j<l.length) (a b c:Int) k,j<n→f (a,b,c,(j:Int)) k=bif bad (a,b,c) j l[j] then some false else k ((up (a,b,c) j l[j]).1,(up (a,b,c) j l[j]).2.1,(up (a,b,c) j l[j]).2.2,IntKind.wrap .i64 ((j:Int)+1)))
  (hz:∀ (a b c:Int) k,f (a,b,c,(n:Int)) k=gB (a,b,c)) (a b c:Int):tA FU f (a,b,c,(0:Int))=lD bad up gB (l.take n) 0 (a,b,c):=by
 have key:=TE (f:=f) (g:=fun x:Int × Int × Int × Int=>lD bad up gB ((l.take n).drop x.2.2.2.toNat) x.2.2.2.toNat (x.1,x.2.1,x.2.2.1)) (fun x=>0≤x.2.2.2∧x.2.2.2≤n) (fun x=>n - x.2.2.2.toNat) (fun x hx k hk=>by
  obtain ⟨a,b,c,i⟩:=x
  obtain ⟨h0,h1⟩:=hx
  simp only at h0 h1
  obtain ⟨j,rfl⟩:=Int.eq_ofNat_of_zero_le h0
  simp only [Int.toNat_natCast]
  by_cases hj:j<n
  ·have eX:j<l.length:=by omega
   have hj3:j<(l.take n).length:=by rw [List.length_take];omega
   rw [hf j eX a b c k hj,XC j (by omega),kI _ hj3,List.getElem_take,lD]
   rw [hk ((up (a,b,c) j l[j]).1,(up (a,b,c) j l[j]).2.1,(up (a,b,c) j l[j]).2.2,((j+1:Nat):Int)) ⟨by show (0:Int)≤((j+1:Nat):Int);omega,by show ((j+1:Nat):Int)≤n;omega⟩ (by simp only [Int.toNat_natCast];omega)]
   simp only [Int.toNat_natCast]
  ·have:j=n:=by omega
   subst this
   rw [hz,List.drop_eq_nil_of_le (by rw [List.length_take];omega)];rfl) (x:=(a,b,c,(0:Int))) ⟨Int.le_refl _,by show (0:Int)≤n;omega⟩ (by show n - Int.toNat 0<2^64;unfold maxLen at hl;simp;omega)
 rw [key];simp
theorem rV (p q:G.Note→Bool) (l:List G.Note):cB (fun m=>p m||q m) l=(cB p l||cB q l):=by
 induction l with
 | nil=>rfl
 | cons x l ih=>
  rw [nE,nE,nE,ih]
  cases AA x <;> cases p x <;> cases q x <;> simp
def UB (v:Bool) (a b:Int):Int:=bif v then a else b
theorem zbK (n:G.Note) (c:Int):∀ (r:List G.Note) (i ca:Nat) (b:Int),ca+r.length≤maxLen→
  lD (fun _ _ x=>AA x&&((lC n x&&x.Id !=n.Id)||jE n x)) (fun s _ x=>(UB (AA x&&lC n x) (cA .i64 s.1 1) s.1,UB (AA x&&VD n x) 1 s.2.1,s.2.2)) (fun s=>some (s.1==1&&s.2.1==1)) r i ((ca:Int),b,c)
   =some (!cB (fun x=>(lC n x&&x.Id !=n.Id)||jE n x) r&&(ca+sB (lC n) r==1)&&(b==1||cB (VD n) r))
 | [],i,ca,b,h=>by
  simp only [lD,NP,zax,Nat.add_zero,Bool.not_false,Bool.true_and,Bool.or_false]
  rw [show (((ca:Nat):Int)==1)=(ca==1) by rw [Bool.eq_iff_iff,beq_iff_eq,beq_iff_eq];omega]
 | x :: r,i,ca,b,h=>by
  rw [lD,nE,nE,OG]
  cases hb:AA x&&((lC n x&&x.Id !=n.Id)||jE n x)
  ·simp only [cond_false,Bool.false_or]
   rw [List.length_cons] at h
   cases hd:AA x&&lC n x
   ·rw [show UB false (cA .i64 ((ca:Nat):Int) 1) (ca:Int)=(ca:Int) from rfl,zbK n c r (i+1) ca _ (by omega)]
    cases AA x&&VD n x <;> simp [UB]
   ·rw [show UB true (cA .i64 ((ca:Nat):Int) 1) (ca:Int)=((ca+1:Nat):Int) from XC ca (by omega),zbK n c r (i+1) (ca+1) _ (by omega)]
    rw [show ca+1+sB (lC n) r=ca+(1+sB (lC n) r) by omega]
    cases AA x&&VD n x <;> simp [UB]
  ·simp
theorem zoX (p q:G.Note→Bool) (l:List G.Note):sB p l=sB (fun m=>p m&&q m) l+sB (fun m=>p m&&!q m) l:=by
 induction l with
 | nil=>rfl
 | cons x l ih=>
  rw [OG,OG,OG,ih]
  cases AA x <;> cases p x <;> cases q x <;> simp <;> omega
theorem zsN (n:G.Note) (r:List G.Note):(!cB (fun x=>(lC n x&&x.Id !=n.Id)||jE n x) r&&(0+sB (lC n) r==1)&&cB (VD n) r)=FJ r n:=by
 rw [rV,FJ,Nat.zero_add]
 have h:=zoX (lC n) (fun m=>m.Id==n.Id) r
 have h1:sB (fun m=>lC n m&&!(m.Id==n.Id)) r=0↔cB (fun x=>lC n x&&x.Id !=n.Id) r=false:=by
  rw [← xK,decide_eq_false_iff_not]
  show _↔¬ 0<sB (fun m=>lC n m&&!(m.Id==n.Id)) r
  omega
 have h2:sB (fun m=>lC n m&&m.Id==n.Id) r=sB (OF n) r:=rfl
 rw [h2] at h
 cases ha:cB (fun x=>lC n x&&x.Id !=n.Id) r
 ·have h0:=h1.2 ha
  rw [h0,Nat.add_zero] at h
  rw [h]
  cases sB (OF n) r==1 <;> cases cB (jE n) r <;> cases cB (VD n) r <;> rfl
 ·have h0:sB (fun m=>lC n m&&!(m.Id==n.Id)) r≠0:=fun e=>by rw [h1.1 e] at ha;cases ha
  by_cases hd:sB (lC n) r=1
  ·have:sB (OF n) r≠1:=by omega
   rw [beq_false_of_ne this];simp
  ·rw [beq_false_of_ne hd];simp
theorem lO (bad vX:G.Note→Bool) (a0 c:Int):∀ (r:List G.Note) (i:Nat) (a b:Int),(a=1∨b≠1∧a=0)→
  lD (fun _ _ x=>AA x&&bad x) (fun s _ x=>(UB (AA x) 1 s.1,UB (AA x&&vX x) 1 s.2.1,s.2.2)) (fun s=>some (s.1==1&&s.2.1==1)) r i (a,b,c)
   =some (!cB bad r&&(b==1||cB vX r))
 | [],i,a,b,h=>by
  simp only [lD,NP,Bool.not_false,Bool.true_and,Bool.or_false]
  rcases h with rfl | ⟨h1,rfl⟩
  ·rfl
  ·rw [beq_false_of_ne h1];rfl
 | x :: r,i,a,b,h=>by
  rw [lD,nE,nE]
  cases hb:AA x&&bad x
  ·simp only [cond_false,Bool.false_or]
   cases hx:AA x
   ·exact (lO bad vX a0 c r (i+1) a b h).trans (by simp)
   ·rw [show UB true 1 a=1 from rfl,Bool.true_and,lO bad vX a0 c r (i+1) 1 _ (.inl rfl)]
    cases vX x <;> simp [UB]
  ·simp
theorem zf4 (bad vX:G.Note→Bool) (c:Int) (gB:Bool→Bool):∀ (r:List G.Note) (i:Nat) (a b:Int),
  lD (fun _ _ x=>AA x&&bad x) (fun s _ x=>(UB (AA x) 1 s.1,UB (AA x&&vX x) 1 s.2.1,s.2.2)) (fun s=>some (gB (s.2.1==1))) r i (a,b,c)
   =some (!cB bad r&&gB (b==1||cB vX r))
 | [],i,a,b=>by
  simp only [lD,NP,Bool.not_false,Bool.true_and,Bool.or_false]
 | x :: r,i,a,b=>by
  rw [lD,nE,nE]
  cases hb:AA x&&bad x
  ·simp only [cond_false,Bool.false_or]
   rw [zf4 bad vX c gB r (i+1)]
   cases AA x&&vX x <;> simp [UB]
  ·simp
theorem zf3 (gB:Int × Int × Int→Option Bool):∀ (r:List G.Note) (i:Nat) (s:Int × Int × Int),lD (fun _ _ _=>false) (fun s _ _=>s) gB r i s=gB s
 | [],_,_=>rfl
 | x :: r,i,s=>by rw [lD];exact zf3 gB r (i+1) s
def XI (n:G.Note):List G.Note→Bool
 | []=>false
 | x :: r=>bif AA x&&PB n x then cB (KD n) r else XI n r
def GG (n x:G.Note):Bool:=(PB n x&&!PE n x)||rF n x
def HM (n:G.Note) (s:Int × Int × Int) (i:Nat) (x:G.Note):Int × Int × Int:=
 (UB (AA x&&PB n x) (cA .i64 s.1 1) s.1,UB (AA x&&(KD n x&&decide (s.2.2≥0))) 1 s.2.1,UB (AA x&&PB n x) (i:Int) s.2.2)
theorem zbJ (n:G.Note):∀ (r:List G.Note) (i ca:Nat) (b c:Int),ca+r.length≤maxLen→0<ca→0≤c→
  lD (fun _ _ x=>AA x&&GG n x) (HM n) (fun s=>some (s.1==1&&s.2.1==1)) r i ((ca:Int),b,c)
   =some (!cB (GG n) r&&(ca+sB (PB n) r==1)&&(b==1||cB (KD n) r))
 | [],i,ca,b,c,h,h0,hc=>by
  simp only [lD,NP,zax,Nat.add_zero,Bool.not_false,Bool.true_and,Bool.or_false]
  rw [show (((ca:Nat):Int)==1)=(ca==1) by rw [Bool.eq_iff_iff,beq_iff_eq,beq_iff_eq];omega]
 | x :: r,i,ca,b,c,h,h0,hc=>by
  rw [lD,nE,nE,OG]
  rw [List.length_cons] at h
  cases hb:AA x&&GG n x
  ·simp only [cond_false,Bool.false_or,HM,decide_eq_true (p:=c≥0) hc,Bool.and_true]
   cases hd:AA x&&PB n x
   ·rw [show UB false (cA .i64 ((ca:Nat):Int) 1) (ca:Int)=(ca:Int) from rfl,show UB false (i:Int) c=c from rfl]
    refine (zbJ n r (i+1) ca _ c (by omega) h0 hc).trans ?_
    cases AA x&&KD n x <;> simp [UB]
   ·rw [show UB true (cA .i64 ((ca:Nat):Int) 1) (ca:Int)=((ca+1:Nat):Int) from XC ca (by omega),show UB true (i:Int) c=(i:Int) from rfl]
    refine (zbJ n r (i+1) (ca+1) _ (i:Int) (by omega) (by omega) (by omega)).trans ?_
    rw [show ca+1+sB (PB n) r=ca+(1+sB (PB n) r) by omega]
    cases AA x&&KD n x <;> simp [UB]
  ·simp
theorem zf2 (n:G.Note):∀ (r:List G.Note) (i:Nat),i+r.length+1≤maxLen→
  lD (fun _ _ x=>AA x&&GG n x) (HM n) (fun s=>some (s.1==1&&s.2.1==1)) r i (0,0, -1)=some (!cB (GG n) r&&(sB (PB n) r==1)&&XI n r)
 | [],i,h=>rfl
 | x :: r,i,h=>by
  rw [lD,nE,OG,XI]
  rw [List.length_cons] at h
  cases hb:AA x&&GG n x
  ·simp only [cond_false,Bool.false_or,HM,show decide ((-1:Int)≥0)=false from rfl,Bool.and_false]
   cases hd:AA x&&PB n x
   ·refine (zf2 n r (i+1) (by omega)).trans ?_
    simp
   ·rw [show UB true (cA .i64 0 1) 0=((1:Nat):Int) from rfl,show UB true (i:Int) (-1)=(i:Int) from rfl,show UB false 1 0=(0:Int) from rfl]
    refine (zbJ n r (i+1) 1 0 (i:Int) (by omega) (by omega) (by omega)).trans ?_
    simp
  ·simp
theorem zhp (m:Nat) (p:Nat→Bool):YA (m+1) p=(p 0||YA m fun i=>p (i+1)):=by
 rw [Bool.eq_iff_iff,Bool.or_eq_true,EG,EG]
 constructor
 ·rintro ⟨i,hi,h⟩
  cases i with
  | zero=>exact .inl h
  | succ i=>exact .inr ⟨i,by omega,h⟩
 ·rintro (h | ⟨i,hi,h⟩)
  ·exact ⟨0,by omega,h⟩
  ·exact ⟨i+1,by omega,h⟩
theorem zhq {p q:G.Note→Bool} {l:List G.Note} (h:∀ x,p x=true→q x=true) (hq:cB q l=false):cB p l=false:=by
 induction l with
 | nil=>rfl
 | cons x l ih=>
  rw [nE,Bool.or_eq_false_iff] at hq ⊢
  refine ⟨?_,ih hq.2⟩
  cases hp:p x
  ·simp
  ·rw [h x hp] at hq;simpa using hq.1
theorem zsG (x:G.Note) (r:List G.Note) (n:G.Note) (i:Nat):kE (x :: r) n (i+1)=kE r n i:=by
 simp only [kE,List.getElem?_cons_succ,List.drop_succ_cons]
theorem zfv (n:G.Note):∀ r:List G.Note,sB (PB n) r=1→(!cB (fun x=>PB n x&&!PE n x) r&&XI n r)=YA r.length (kE r n)
 | [],h=>by cases h
 | x :: r,h=>by
  rw [OG] at h
  rw [nE,XI,List.length_cons,zhp]
  simp only [zsG]
  cases hd:AA x&&PB n x
  ·rw [hd] at h
   have ih:=zfv n r (by simpa using h)
   have e0:kE (x :: r) n 0=false:=by
    simp only [kE,List.getElem?_cons_zero,Option.any_some,hd,Bool.false_and]
   have e1:(AA x&&(PB n x&&!PE n x))=false:=by rw [← Bool.and_assoc,hd];rfl
   rw [e0,e1,Bool.false_or,Bool.false_or,cond_false]
   exact ih
  ·rw [hd] at h
   have h0:sB (PB n) r=0:=by simpa using h
   have ha:cB (PB n) r=false:=by rw [← xK,h0];rfl
   have h1:cB (fun x=>PB n x&&!PE n x) r=false:=zhq (fun x hx=>by simp only [Bool.and_eq_true] at hx;exact hx.1) ha
   have h2:YA r.length (kE r n)=false:=by
    rw [ZH]
    intro j hj
    have:(AA r[j]&&PB n r[j])=false:=by
     cases hb:AA r[j]&&PB n r[j]
     ·rfl
     ·have:cB (PB n) r=true:=List.any_eq_true.2 ⟨r[j],List.getElem_mem hj,hb⟩
      rw [ha] at this;cases this
    rw [kE,pC hj,this];rfl
   have e0:kE (x :: r) n 0=(PE n x&&cB (KD n) r):=by
    simp only [kE,List.getElem?_cons_zero,Option.any_some,hd,Bool.true_and,List.drop_succ_cons,List.drop_zero]
   have e1:(AA x&&(PB n x&&!PE n x))= !PE n x:=by rw [← Bool.and_assoc,hd,Bool.true_and]
   rw [e0,e1,h1,h2]
   simp
theorem zra (n:G.Note) (r:List G.Note):(!cB (GG n) r&&(sB (PB n) r==1)&&XI n r)=WG r n:=by
 have hb:cB (GG n) r=(cB (fun x=>PB n x&&!PE n x) r||cB (rF n) r):=rV _ _ _
 rw [hb,WG]
 by_cases h:sB (PB n) r=1
 ·have:=zfv n r h
  rw [h, ← this]
  cases cB (fun x=>PB n x&&!PE n x) r <;> cases cB (rF n) r <;> cases XI n r <;> rfl
 ·rw [beq_false_of_ne h];simp
end Go.D
namespace Go.D
theorem zuO {n:Nat} (h:n≤maxLen):sA .i64 (n:Int) 1=(n:Int) - 1:=by
 rw [QC] at h
 rw [sA,fC (by omega) (by omega)]
theorem zqC {n:Nat} (h:n≤maxLen) (i:Int):iA i 0 (sA .i64 (n:Int) 1)=(decide (0≤i)&&decide (i<(n:Int))):=by
 rw [zuO h,zqz]
 congr 1
 exact decide_eq_decide.2 (by omega)
theorem PC {k a:Int} (hk:k=a) {b:Int} (hab:a≠b):(k==b)=false:=by subst hk;exact beq_false_of_ne hab
theorem zfS {n:G.Note} (h:AA n=true):n.Role=0∨n.Role=1:=by
 simp only [AA,Bool.and_eq_true,OC] at h
 omega
theorem zti (l:List G.Note) (i:Int) (h:wt l≤bA):FL.raw l i=some (zI l i):=by
 have hl:=HD h
 simp only [FL.raw,aA,zI,zqC hl]
 by_cases h0:0≤i
 case neg=>
  have e1:decide (0≤i)=false:=decide_eq_false h0
  rw [e1];rfl
 obtain ⟨j,rfl⟩:=hG h0
 have e1:decide ((0:Int)≤(j:Int))=true:=decide_eq_true (by omega)
 rw [e1,Int.toNat_natCast,Bool.true_and,Bool.true_and,zH]
 by_cases hj:j<l.length
 case neg=>
  rw [decide_eq_false (p:=(j:Int)<(l.length:Int)) (by omega),List.getElem?_eq_none (by omega)];rfl
 have hw:=mD hj
 have hn:wt l[j]≤bA:=by omega
 have hp:=zB hn
 have N4:=zgY h j
 have e3:(decide ((0:Int)≤0)&&true&&decide ((j:Int)≤(l.length:Int)))=true:=by simp;omega
 rw [TB hj,pC hj,e3]
 simp only [Bool.not_true,cond_false,cond_true,nB hj,dB,zaA,HI,QA (p:=wt (l.take j)≤bA∧wt l[j].Sn≤bA) ⟨N4,hp.2.1⟩]
 cases ho:AA l[j]
 ·rfl
 cases hs:GI (l.take j) l[j].Sn
 case true=>rfl
 simp only [Bool.not_true,cond_false,Bool.true_and,Bool.false_or,zeT]
 generalize hN:l[j]=n at *
 have PY:j≤l.length:=Nat.le_of_lt hj
 -- what is read of a note ahead
 have hx:∀ (t:Nat) (ht:t<l.length),wt l[t].Cn≤bA∧wt l[t].Sn≤bA∧wt l[t].Body≤bA∧wt l[t].Key≤bA:=fun t ht=>zB (by have:=mD ht;omega)
 by_cases k4:n.Kind=4
 ·simp only [PC k4 (b:=3) (by decide),PC k4 (b:=6) (by decide),PC k4 (b:=8) (by decide),PC k4 (b:=9) (by decide),PC k4 (b:=10) (by decide),show (n.Kind==4)=true by simp [k4],cond_true,cond_false]
  rw [zJ l j hl PY (fun _ _ x=>AA x&&((lC n x&&x.Id !=n.Id)||jE n x)) (fun s _ x=>(UB (AA x&&lC n x) (cA .i64 s.1 1) s.1,UB (AA x&&VD n x) 1 s.2.1,s.2.2)) (fun s=>some (s.1==1&&s.2.1==1))
   (fun t ht a b c k z1=>?_) (fun a b c k=>?_)]
  ·rw [show ((0:Int),(0:Int),(-1:Int))=(((0:Nat):Int),(0:Int),(-1:Int)) from rfl,zbK n (-1) _ 0 0 0 (by rw [List.length_take];omega), ← zsN]
   simp
  ·obtain ⟨x1,x2,x3,x4⟩:=hx t ht
   simp only [TB z1,cond_true,nB ht,dB,kB x2 hp.2.1,kB x1 hp.1,kB x3 hp.2.2.1,lC,VD,jE]
   generalize l[t]=x
   cases AA x
   ·rfl
   by_cases y1:x.Kind=1
   ·simp only [PC y1 (b:=2) (by decide),PC y1 (b:=4) (by decide),show (x.Kind==1)=true by simp [y1]]
    cases x.Cn==n.Cn <;> cases x.Id !=n.Id <;> rfl
   ·simp only [beq_false_of_ne y1]
    by_cases y2:x.Kind=2
    ·simp only [PC y2 (b:=4) (by decide),show (x.Kind==2)=true by simp [y2]]
     cases x.Cn==n.Cn <;> cases x.Sn==n.Sn <;> cases x.Id==n.Id <;> rfl
    ·simp only [beq_false_of_ne y2]
     cases x.Kind==4 <;> cases x.Cn==n.Cn <;> rfl
  ·simp only [dC,cond_false,jB,Bool.cond_false_right]
 by_cases k3:n.Kind=3
 ·simp only [beq_false_of_ne k4,PC k3 (b:=6) (by decide),PC k3 (b:=8) (by decide),PC k3 (b:=9) (by decide),PC k3 (b:=10) (by decide),show (n.Kind==3)=true by simp [k3],cond_true,cond_false]
  rw [zJ l j hl PY (fun _ _ x=>AA x&&QF n x) (fun s _ x=>(UB (AA x) 1 s.1,UB (AA x&&PF n x) 1 s.2.1,s.2.2)) (fun s=>some (s.1==1&&s.2.1==1))
   (fun t ht a b c k z1=>?_) (fun a b c k=>?_)]
  ·rw [lO _ _ 0 (-1) _ 0 0 0 (.inr ⟨by decide,rfl⟩)]
   cases cB (QF n) (l.take j) <;> cases cB (PF n) (l.take j) <;> rfl
  ·obtain ⟨x1,x2,x3,x4⟩:=hx t ht
   simp only [TB z1,cond_true,nB ht,dB,kB x2 hp.2.1,kB x1 hp.1,kB x3 hp.2.2.1,kB x4 hp.2.2.2,QF,PF]
   generalize l[t]=x
   cases AA x
   ·rfl
   by_cases y1:x.Kind=4
   ·simp only [PC y1 (b:=3) (by decide),show (x.Kind==4)=true by simp [y1]]
    cases x.Cn==n.Cn <;> cases x.Id==n.Id <;> cases x.Sn==n.Sn <;> cases x.Key==n.Key <;> rfl
   ·simp only [beq_false_of_ne y1]
    cases x.Kind==3 <;> cases x.Cn==n.Cn <;> rfl
  ·simp only [dC,cond_false,jB,Bool.cond_false_right]
 by_cases k6:n.Kind=6
 ·simp only [beq_false_of_ne k4,beq_false_of_ne k3,PC k6 (b:=8) (by decide),PC k6 (b:=9) (by decide),PC k6 (b:=10) (by decide),show (n.Kind==6)=true by simp [k6],cond_true,cond_false]
  rw [zJ l j hl PY (fun _ _ x=>AA x&&(pF n n x||qF n n x)) (fun s _ x=>(UB (AA x) 1 s.1,UB (AA x&&sF n n x) 1 s.2.1,s.2.2)) (fun s=>some (s.1==1&&s.2.1==1))
   (fun t ht a b c k z1=>?_) (fun a b c k=>?_)]
  ·rw [lO (fun x=>pF n n x||qF n n x) (sF n n) 0 (-1) _ 0 0 0 (.inr ⟨by decide,rfl⟩),rV,DK]
   cases cB (pF n n) (l.take j) <;> cases cB (qF n n) (l.take j) <;> cases cB (sF n n) (l.take j) <;> rfl
  ·obtain ⟨x1,x2,x3,x4⟩:=hx t ht
   simp only [TB z1,cond_true,nB ht,dB,kB x2 hp.2.1,kB x1 hp.1,kB x3 hp.2.2.1,pF,qF,sF,YG]
   generalize l[t]=x
   cases AA x
   ·rfl
   by_cases y1:x.Kind=5
   ·simp only [PC y1 (b:=6) (by decide),show (x.Kind==5)=true by simp [y1]]
    cases x.Role==n.Role <;> cases x.Sn==n.Sn <;> cases x.Epoch==n.Epoch <;> cases x.Seq==n.Seq <;> cases x.Body==n.Body <;> rfl
   ·simp only [beq_false_of_ne y1]
    cases x.Kind==6
    ·rfl
    cases x.Role==n.Role
    ·rfl
    cases x.Sn==n.Sn
    ·rfl
    cases x.Epoch==n.Epoch <;> cases x.Seq==n.Seq <;> cases decide (x.Epoch>n.Epoch) <;> cases decide (sA .i64 n.Now x.Now>5) <;> rfl
  ·simp only [dC,cond_false,jB,Bool.cond_false_right]
 by_cases k10:n.Kind=10
 ·simp only [beq_false_of_ne k4,beq_false_of_ne k3,beq_false_of_ne k6,PC k10 (b:=8) (by decide),PC k10 (b:=9) (by decide),show (n.Kind==10)=true by simp [k10],cond_true,cond_false]
  rw [zJ l j hl PY (fun _ _ x=>AA x&&YE n n x) (fun s _ x=>(UB (AA x) 1 s.1,UB (AA x&&bif n.Role==1 then tF n n x else uF n n x) 1 s.2.1,s.2.2)) (fun s=>some (s.2.1==1||(n.Role==1&&n.Epoch==1)))
   (fun t ht a b c k z1=>?_) (fun a b c k=>?_)]
  ·rw [zf4 (YE n n) (fun x=>bif n.Role==1 then tF n n x else uF n n x) (-1) (fun v=>v||(n.Role==1&&n.Epoch==1)),GM]
   cases hr:n.Role==1
   ·simp only [cond_false]
    cases cB (YE n n) (l.take j) <;> cases cB (uF n n) (l.take j) <;> rfl
   ·simp only [cond_true]
    cases cB (YE n n) (l.take j) <;> cases cB (tF n n) (l.take j) <;> cases n.Epoch==1 <;> rfl
  ·obtain ⟨x1,x2,x3,x4⟩:=hx t ht
   simp only [TB z1,cond_true,nB ht,dB,kB x2 hp.2.1,kB x1 hp.1,kB x3 hp.2.2.1,kB x4 hp.2.2.2,YE,tF,uF,jL]
   generalize l[t]=x
   cases AA x
   ·rfl
   by_cases y1:x.Kind=10
   ·simp only [show (x.Kind==10)=true by simp [y1],show (x.Kind !=10)=false by simp [y1]]
    cases x.Sn==n.Sn
    ·rcases zfS ho with hr | hr <;> simp [hr,UB]
    ·rcases zfS ho with hr | hr
     ·simp only [hr,show ((0:Int)==0)=true from rfl,show ((0:Int)==1)=false from rfl]
      by_cases z:x.Role=0
      ·simp only [z,show ((0:Int)==0)=true from rfl,show ((0:Int)==1)=false from rfl]
       cases x.Epoch==n.Epoch <;> rfl
      ·simp only [beq_false_of_ne z]
       cases x.Role==1 <;> cases x.Epoch==n.Epoch <;> cases x.Key==n.Key <;> rfl
     ·simp only [hr,show ((1:Int)==0)=false from rfl,show ((1:Int)==1)=true from rfl]
      by_cases z:x.Role=1
      ·simp only [z,show ((1:Int)==0)=false from rfl,show ((1:Int)==1)=true from rfl]
       cases x.Epoch==n.Epoch <;> rfl
      ·simp only [beq_false_of_ne z]
       cases x.Role==0 <;> cases x.Epoch==sA .i64 n.Epoch 1 <;> rfl
   ·simp only [beq_false_of_ne y1,show (x.Kind !=10)=true from bne_iff_ne.2 y1]
    cases n.Role==1 <;> rfl
  ·simp only [dC,cond_false,jB,Bool.cond_false_right,Bool.cond_true_left]
 by_cases k8:n.Kind=8
 ·simp only [beq_false_of_ne k4,beq_false_of_ne k3,beq_false_of_ne k6,beq_false_of_ne k10,PC k8 (b:=9) (by decide),show (n.Kind==8)=true by simp [k8],cond_true,cond_false]
  rw [zJ l j hl PY (fun _ _ x=>AA x&&false) (fun s _ x=>(UB (AA x) 1 s.1,UB (AA x&&oF n x) 1 s.2.1,s.2.2)) (fun s=>some (s.1==1&&s.2.1==1))
   (fun t ht a b c k z1=>?_) (fun a b c k=>?_)]
  ·rw [lO (fun _=>false) (oF n) 0 (-1) _ 0 0 0 (.inr ⟨by decide,rfl⟩)]
   have:cB (fun _=>false) (l.take j)=false:=by
    cases hb:cB (fun _=>false) (l.take j)
    ·rfl
    ·obtain ⟨x,_,hx⟩:=List.any_eq_true.1 hb
     simp at hx
   rw [this]
   cases cB (oF n) (l.take j) <;> rfl
  ·obtain ⟨x1,x2,x3,x4⟩:=hx t ht
   simp only [TB z1,cond_true,nB ht,dB,kB x2 hp.2.1,kB x1 hp.1,kB x3 hp.2.2.1,oF]
   generalize l[t]=x
   cases AA x
   ·rfl
   cases x.Kind==7 <;> cases x.Sn==n.Sn <;> cases x.Body==n.Body <;> rfl
  ·simp only [dC,cond_false,jB,Bool.cond_false_right]
 by_cases k9:n.Kind=9
 ·simp only [beq_false_of_ne k4,beq_false_of_ne k3,beq_false_of_ne k6,beq_false_of_ne k10,beq_false_of_ne k8,show (n.Kind==9)=true by simp [k9],cond_true,cond_false]
  rw [zJ l j hl PY (fun _ _ x=>AA x&&GG n x) (HM n) (fun s=>some (s.1==1&&s.2.1==1)) (fun t ht a b c k z1=>?_) (fun a b c k=>?_)]
  ·rw [zf2 n _ 0 (by rw [List.length_take];omega),zra]
  ·obtain ⟨x1,x2,x3,x4⟩:=hx t ht
   simp only [TB z1,cond_true,nB ht,dB,kB x2 hp.2.1,kB x1 hp.1,kB x3 hp.2.2.1,cH,GG,HM,PB,rF,KD,PE]
   generalize l[t]=x
   cases AA x
   ·rfl
   by_cases y1:x.Kind=7
   ·simp only [PC y1 (b:=8) (by decide),PC y1 (b:=9) (by decide),show (x.Kind==7)=true by simp [y1]]
    cases x.Body==n.Body <;> cases x.Sn==n.Sn <;> cases MC x.A n.A <;> cases iA (sA .i64 n.Now x.Now) 0 6 <;> rfl
   ·simp only [beq_false_of_ne y1]
    by_cases y2:x.Kind=8
    ·simp only [PC y2 (b:=9) (by decide),show (x.Kind==8)=true by simp [y2]]
     cases x.Body==n.Body <;> cases x.Sn==n.Sn <;> cases decide (c≥0) <;> rfl
    ·simp only [beq_false_of_ne y2]
     cases x.Kind==9 <;> cases x.Body==n.Body <;> rfl
  ·simp only [dC,cond_false,jB,Bool.cond_false_right]
 simp only [beq_false_of_ne k4,beq_false_of_ne k3,beq_false_of_ne k6,beq_false_of_ne k10,beq_false_of_ne k8,beq_false_of_ne k9,cond_false]
 rw [zJ l j hl PY (fun _ _ _=>false) (fun s _ _=>s) (fun _=>some true) (fun t ht a b c k z1=>?_) (fun a b c k=>?_)]
 ·rw [zf3]
 ·obtain ⟨x1,x2,x3,x4⟩:=hx t ht
  simp only [TB z1,cond_true,nB ht,dB,kB x2 hp.2.1,kB x1 hp.1,kB x3 hp.2.2.1]
  cases AA l[t] <;> rfl
 ·simp only [dC,cond_false]
theorem FL.ok {x:lA [.sl .Note, .v .int]} (_:rA [.sl .Note, .v .int] x) {r:Bool}:mF x.1 x.2=some r→FL.raw x.1 x.2=some r:=HA fun h=>zti x.1 x.2 h
end Go.D

/-
 The program's machine comes to an end; what is right stays right.
-/
import Derived.Test.YthmhafeaiaigoaaGreatE1
set_option linter.all false
namespace Go.D
def zaS{a0}:Ok (Bf a0) λr=>xD r=true∧(eA a0 0 1000000=true→r.On=true):=by
 unfold Bf
 refine .c (λh1=> .s ⟨?_,?_⟩)
  λh1=> .s ⟨?_,?_⟩
 all_goals first | trivial | ((try simp only[NB]at *)<;>(try simp(disch:=omega) only[DA,LA]at *)<;>omega) | grind [eA,nA,xD,KF,DA]
def zi0{a0}(ha:a0.Cn.length≤100):Ok (Fz a0) λr=>wt r≤a0.Cn.length:=by
 unfold Fz;refine .m (qA ?_) (.s ?_)
 all_goals first | trivial | ((try simp only[NB]at *)<;>omega) | grind [eA,nA]
def zfi{a0 a1 a2 a3}(ha:wt a1≤1000000000):Ok (Eo a0 a1 a2 a3) λr=>r.length≤25∧(0<r.length→a1.length=12):=by
 unfold Eo
 refine .j0 (.c (λh1=> .kt (.s ⟨?_,?_⟩))
  λh1=> .c (λh2=> .kt (.s ⟨?_,?_⟩))
  λh2=>have:=ZJ (nf h2); .c (λh3=> .kt (.s ⟨?_,?_⟩))
  λh3=> .c (λh4=> .s ⟨?_,?_⟩)
  λh4=> .m (qA ?_) (have:=PG [] a2 4; .m (qA ?_) (have:=PG [] a3 6; .m (qA ?_) (have:=oI ([[UInt8.ofNat (IntKind.wrap .u8 a0:Int).toNat],a1,(FD [] a2 4),(FD [] a3 6)]:List (List UInt8)); .s ⟨?_,?_⟩))))
 all_goals first | trivial | ((try simp only[NB]at *)<;>omega) | grind [eA,nA]
def zfR{a0 a1 a2}(ha:wt a1≤1000000000)(hb:wt a2≤1000000000):Ok (Eq a0 a1 a2) λr=>r.length≤200∧r.length≤a2.length:=by
 unfold Eq
 refine .j0 (.c (λh1=> .kt (.s ?_))
  λh1=> .c (λh2=> .kt (.s ?_))
  λh2=> .c (λh3=> .s ?_)
  λh3=> .b (zqG ?_) λr3 uW=> .j (λy4:(List UInt8)=>y4.length≤200∧y4.length≤a2.length) (λy4 MY=> .s ?_)
  λk5 dW=> .l (λx6:(List UInt8)×Int=>0≤x6.2∧x6.2≤(r3.length:Int)∧(x6.1.length:Int)=x6.2) (λx6:(List UInt8)×Int=>((r3.length:Int) - x6.2).toNat) (λx6 b7 k7 TV=> .c (λh4=> .h ?_ (.bg ?_ λe8 S3 Q2=> .bi ?_ ?_ λe9 LZ CY=> .g ?_ (TV _ ?_ ?_)))
  λh4=>dW _ ?_) ?_ ?_)
 all_goals first | trivial | ((try simp only[NB]at *)<;>(try simp(disch:=omega) only[DA,LA]at *)<;>omega) | grind [eA,nA]
def tP{a0 a1}(ha:wt a1≤1000000000):Ok (Ch a0 a1) λr=>r.length≤100:=by
 unfold Ch
 refine .j0 (.c (λh1=> .kt (.s ?_))
  λh1=> .c (λh2=> .kt (.s ?_))
  λh2=> .m (qA ?_) (.c (λh3=> .s ?_)
  λh3=>have:=uD (nf h3); .b (zfi ?_) λr4 UV=> .m (qA ?_) (have:=oI ([[UInt8.ofNat (116:Int).toNat],r4,[UInt8.ofNat (IntKind.wrap .u8 a1.Kind:Int).toNat],a1.Body]:List (List UInt8)); .s ?_)))
 all_goals first | trivial | ((try simp only[NB]at *)<;>omega) | grind [eA,nA]
def kV{a0 a1}:Ok (Bz a0 a1) λr=>r.length≤16∧(r.length=16∨(ZC a0 a1).length=0):=by
 unfold Bz;refine have hm:=iL a0 a1;have C2:=zmO a0 a1;
 .c (λh1=> .s ⟨?_,?_⟩)
  λh1=> .h ?_ (.m (qA ?_) (.s ⟨?_,?_⟩))
 all_goals first | trivial | ((try simp only[NB]at *)<;>omega) | grind [eA,nA]
def zfz{a0 a1 a2 a3 a4 a5 a6}(ha:wt a0≤1000000000)(hb:wt a2≤1000000000)(hc:wt a6≤1000000000):Ok (Dq a0 a1 a2 a3 a4 a5 a6) λr=>wt r.1≤300∧(r.1.Sn=[]∨r.1.Sn=a2)∧(r.1.Epoch=0∨r.1.Epoch=a3)∧(r.1.Seq=0∨r.1.Seq=a4):=by
 unfold Dq
 refine .m (qA ?_) (.m (qA ?_) (.j0 (.c (λh1=> .kt (.s ⟨?_,?_,?_,?_⟩))
  λh1=> .c (λh2=> .kt (.s ⟨?_,?_,?_,?_⟩))
  λh2=> .c (λh3=> .kt (.s ⟨?_,?_,?_,?_⟩))
  λh3=> .m (qA ?_) (.c (λh4=> .s ⟨?_,?_,?_,?_⟩)
  λh4=>have:=uD (nf h4); .b (zfi ?_) λr7 HW=> .b (zfR ?_ ?_) λr8 sW=> .b (tP ?_) λr9 QW=> .b kV λr10 rW=> .s ⟨?_,?_,?_,?_⟩))))
 all_goals first | trivial | ((try simp only[NB,List.length_replicate]at *)<;>omega) | grind [eA,nA]
def zq2{a0 a1 a2 a3 a4}(ha:aD a0=true)(hb:wt a2≤1000000000)(hc:wt a4≤1000000000):Ok (Er a0 a1 a2 a3 a4) λr=>aD r.1=true∧(r.1.N=a0.N∧r.1.Key=a0.Key)∧wt r.2.1≤300∧wH r.2.1 a2:=by
 unfold Er;refine have:=epF ha;
 .m (qA ?_) (.c (λh1=> .s ⟨?_,?_,?_,?_⟩)
  λh1=>have:=epF (nf h1); .b (zfz ?_ ?_ ?_) λr2 eW=> .c (λh2=> .s ⟨?_,?_,?_,?_⟩)
  λh2=> .j0 (.c (λh3=> .c (λh4=> .s ⟨?_,?_,?_,?_⟩)
  λh4=> .c (λh5=> .s ⟨?_,?_,?_,?_⟩)
  λh5=> .b (zfz ?_ ?_ ?_) λr5 RV=> .s ⟨?_,?_,?_,?_⟩)
  λh3=> .kf (.c (λh6=> .s ⟨?_,?_,?_,?_⟩)
  λh6=> .b (zfz ?_ ?_ ?_) λr5 RV=> .s ⟨?_,?_,?_,?_⟩)))
 all_goals first | trivial | ((try simp only[NB]at *)<;>(try simp(disch:=omega) only[DA,LA]at *)<;>omega) | grind [eA,nA,wH,aD,DA]
def rP{a0 a1 a2}(ha:nC a0=true)(hb:wt a2≤1000000000):Ok (Bq a0 a1 a2) λr=>nC r.1=true∧(r.1.Role=a0.Role∧r.1.Sn=a0.Sn∧r.1.Next=a0.Next∧r.1.Cur.N=a0.Cur.N∧r.1.HasOld=a0.HasOld)∧wt r.2.1≤300∧wH r.2.1 a0.Sn:=by
 unfold Bq;refine have:=XC ha;
 .m (qA ?_) (.m (qA ?_) (.c (λh1=> .s ⟨?_,?_,?_,?_⟩)
  λh1=>have:=XC (nf h1); .b (zq2 ?_ ?_ ?_) λr3 uW=> .s ⟨?_,?_,?_,?_⟩))
 all_goals first | trivial | ((try simp only[NB]at *)<;>omega) | grind [eA,nA,nC,TG,wH]
def zfx{a0 a1}(ha:a0.length=32∨a0.length=0)(hb:a1.length≤100):Ok (Es a0 a1) λr=>mC r=true:=by
 unfold Es;refine .m (qA ?_) (.m (qA ?_) (.s ?_))
 all_goals first | trivial | ((try simp only[NB]at *)<;>omega) | grind [eA,nA,mC,WC,UD,GA,vD,AC,xE]
def WL{a0 a1}(ha:nC a0=true)(hb:wt a1≤1000):Ok (Br a0 a1) λr=>mC r=true:=by
 unfold Br;refine have:=XC ha;
 .b (tP ?_) λr1 NV=> .b (zfx ?_ ?_) λr2 eW=> .s ?_
 all_goals first | trivial | ((try simp only[NB]at *)<;>omega) | grind [eA,nA]
def zih{a0 a1 a2}(ha:tB a0=true)(hb:a2.length≤300000):Ok (Hz a0 a1 a2) λr=>tB r.1=true∧(r.1.Id=a0.Id∧r.1.Psk=a0.Psk∧r.1.At=a0.At)∧iC r.2.2.1∧r.2.2.1.length≤4∧(r.2.1.length≤1∧wt r.2.1≤400):=by
 unfold Hz;refine have:=WD ha;
 .m (qA ?_) (.j0 (.m (qA ?_) (.c (λh1=> .kt (.s ⟨?_,?_,?_,?_,?_⟩))
  λh1=>have:=WD (nf h1); .c (λh2=> .kt (.s ⟨?_,?_,?_,?_,?_⟩))
  λh2=> .c (λh3=> .s ⟨?_,?_,?_,?_,?_⟩)
  λh3=> .c (λh4=> .s ⟨?_,?_,?_,?_,?_⟩)
  λh4=> .b (rP ?_ ?_) λr5 RV=> .c (λh5=> .s ⟨?_,?_,?_,?_,?_⟩)
  λh5=> .m (qA ?_) (.m (qA ?_) (.b (WL ?_ ?_) λr8 sW=> .s ⟨?_,?_,?_,?_,?_⟩)))))
 all_goals first | trivial | ((try simp only[NB]at *)<;>omega) | grind [eA,nA,tB,wH,mC,WC,UD,GA,vD,AC, →XC]
def zr5{a0}(ha:nC a0=true):Ok (Cu a0) λr=>nC r.1=true∧(r.1.Role=a0.Role∧r.1.Sn=a0.Sn∧r.1.Cur=a0.Cur)∧(r.2=true→r.1.Next.length=32):=by
 unfold Cu;refine have:=XC ha;
 .m (qA ?_) (.j0 (.m (qA ?_) (.c (λh1=> .kt (.s ⟨?_,?_,?_⟩))
  λh1=>have:=XC (nf h1); .c (λh2=> .kt (.s ⟨?_,?_,?_⟩))
  λh2=> .c (λh3=> .kt (.s ⟨?_,?_,?_⟩))
  λh3=> .c (λh4=> .s ⟨?_,?_,?_⟩)
  λh4=> .m (qA ?_) (have:=wM a0.Cur.Key [114,101,107,101,121];have:=@AM a0.Cur.Key [114,101,107,101,121]; .s ⟨?_,?_,?_⟩))))
 all_goals first | trivial | ((try simp only[NB]at *)<;>omega) | grind [eA,nA,nC,TG]
def zeX{a0}:Ok (Bk a0) λr=>r.length≤6:=by
 unfold Bk
 refine .c (λh1=> .s ?_)
  λh1=> .m (qA ?_) (have:=PG [] a0 4; .s ?_)
 all_goals first | trivial | ((try simp only[NB]at *)<;>omega) | grind [eA,nA]
def ziC{a0}(ha:nC a0=true):Ok (Ga a0) λr=>nC r.1=true∧(r.1.Role=a0.Role∧r.1.Sn=a0.Sn∧r.1.Next=a0.Next∧r.1.Cur.N=a0.Cur.N∧r.1.HasOld=a0.HasOld)∧wt r.2.1≤300∧wH r.2.1 a0.Sn:=by
 unfold Ga;refine have:=XC ha;
 .j0 (.m (qA ?_) (.c (λh1=> .kt (.m (qA ?_) (.s ⟨?_,?_,?_,?_⟩)))
  λh1=>have:=XC (nf h1); .c (λh2=> .m (qA ?_) (.s ⟨?_,?_,?_,?_⟩))
  λh2=> .b zeX λr5 RV=> .b (rP ?_ ?_) λr6 vW=> .s ⟨?_,?_,?_,?_⟩))
 all_goals first | trivial | ((try simp only[NB]at *)<;>(try simp(disch:=omega) only[DA,LA]at *)<;>omega) | grind [eA,nA,wH]
def zig{a0 a1}(ha:tB a0=true):Ok (Ia a0 a1) λr=>tB r.1=true∧(r.1.Id=a0.Id∧r.1.Psk=a0.Psk∧r.1.At=a0.At)∧iC r.2.2.1∧r.2.2.1.length≤4∧(r.2.1.length≤1∧wt r.2.1≤400):=by
 unfold Ia;refine have:=WD ha;
 .m (qA ?_) (.j0 (.m (qA ?_) (.c (λh1=> .kt (.s ⟨?_,?_,?_,?_,?_⟩))
  λh1=>have:=WD (nf h1); .c (λh2=> .s ⟨?_,?_,?_,?_,?_⟩)
  λh2=> .j0 (.c (λh3=> .kt (.s ⟨?_,?_,?_,?_,?_⟩))
  λh3=> .c (λh4=> .s ⟨?_,?_,?_,?_,?_⟩)
  λh4=> .b (zr5 ?_) λr7 HW=> .b (ziC ?_) λr8 sW=> .j0 (.c (λh5=> .kt (.s ⟨?_,?_,?_,?_,?_⟩))
  λh5=> .c (λh6=> .s ⟨?_,?_,?_,?_,?_⟩)
  λh6=> .b zaS λr11 zW=> .b (WL ?_ ?_) λr12 yW=> .s ⟨?_,?_,?_,?_,?_⟩)))))
 all_goals first | trivial | ((try simp only[NB]at *)<;>omega) | grind [eA,nA,tB,wH,mC,WC,UD,GA,vD,AC, →XC]
def zjV{a0 a1 a2}(ha:tB a0=true)(hb:a2.length≤100):Ok (Hw a0 a1 a2) λr=>tB r.1=true∧(r.1.Id=a0.Id∧r.1.Psk=a0.Psk∧r.1.At=a0.At)∧iC r.2.2.1∧r.2.2.1.length≤4∧(r.2.1.length≤1∧wt r.2.1≤400):=by
 unfold Hw;refine have:=WD ha;
 .m (qA ?_) (.j0 (.m (qA ?_) (.c (λh1=> .kt (.s ⟨?_,?_,?_,?_,?_⟩))
  λh1=>have:=WD (nf h1); .c (λh2=> .kt (.s ⟨?_,?_,?_,?_,?_⟩))
  λh2=> .c (λh3=> .s ⟨?_,?_,?_,?_,?_⟩)
  λh3=>have:=ZJ (nf h3); .c (λh4=> .s ⟨?_,?_,?_,?_,?_⟩)
  λh4=> .m (qA ?_) (.b zaS λr6 vW=> .m (qA ?_) (.b (zi0 ?_) λr8 sW=> .s ⟨?_,?_,?_,?_,?_⟩)))))
 all_goals first | trivial | ((try simp only[NB]at *)<;>omega) | grind [eA,nA,tB,wH,mC,WC,UD,GA,vD,AC, →XC]
def zse{a0 a1}(ha:tB a0=true):Ok (Ct a0 a1) λr=>tB r=true∧(r.Id=a0.Id∧r.Psk=a0.Psk):=by
 unfold Ct;refine have:=WD ha;
 .m (qA ?_) (.j0 (.m (qA ?_) (.c (λh1=>have:=WD h1; .j0 (.c (λh2=>have:=GF h2; .s ⟨?_,?_⟩)
  λh2=> .s ⟨?_,?_⟩))
  λh1=> .j0 (.kf (.s ⟨?_,?_⟩)))))
 all_goals first | trivial | ((try simp only[NB]at *)<;>omega) | grind [eA,nA,tB,ZI]
def zbX{a0}(ha:tB a0=true):Ok (Dr a0) λr=>tB r=true∧(r.Id=a0.Id∧r.Psk=a0.Psk∧r.At=a0.At):=by
 unfold Dr;refine have:=WD ha;
 .m (qA ?_) (.s ⟨?_,?_⟩)
 all_goals first | trivial | ((try simp only[NB]at *)<;>omega) | grind [eA,nA,tB,LF,tC,KF,XF]
def zbu{a0 a1 a2}(ha:0≤a0∧a0≤9)(hb:a1=0∨a1=1)(hc:a2.length=12∨a2.length=0):Ok (Ci a0 a1 a2) λr=>mC r=true:=by
 unfold Ci;refine .m (qA ?_) (.s ?_)
 all_goals first | trivial | ((try simp only[NB]at *)<;>omega) | grind [eA,nA,mC,WC,UD,GA,vD,AC,xE]
def zjH{a0}(ha:tB a0=true):Ok (Ib a0) λr=>tB r.1=true∧(r.1.Id=a0.Id∧r.1.Psk=a0.Psk∧r.1.At=a0.At)∧iC r.2∧r.2.length≤1:=by
 unfold Ib;refine have:=WD ha;
 .m (qA ?_) (.c (λh1=> .m (qA ?_) (.s ⟨?_,?_,?_,?_⟩))
  λh1=>have:=WD (nf h1); .c (λh2=> .b (zbX ?_) λr3 uW=> .s ⟨?_,?_,?_,?_⟩)
  λh2=> .b (zbX ?_) λr4 UV=> .b (zbu ?_ ?_ ?_) λr5 RV=> .s ⟨?_,?_,?_,?_⟩)
 all_goals first | trivial | ((try simp only[NB]at *)<;>omega) | grind [eA,nA,tB, →XC,vD,AC]
def ze1{a0}(ha:wt a0≤1000000000):Ok (Bg a0) λr=>r.length≤200:=by
 unfold Bg
 refine .m (qA ?_) (.c (λh1=> .s ?_)
  λh1=>have:=uD (nf h1); .c (λh2=> .m (qA ?_) (have:=oI ([[UInt8.ofNat (IntKind.wrap .u8 a0.Kind:Int).toNat],[UInt8.ofNat (IntKind.wrap .u8 a0.Id:Int).toNat],a0.Cn,(List.replicate (20:Int).toNat (UInt8.ofNat (0:Int).toNat:UInt8):List UInt8)]:List (List UInt8)); .s ?_))
  λh2=> .c (λh3=> .m (qA ?_) (have:=PG [] a0.Tick 4; .m (qA ?_) (have:=oI ([[UInt8.ofNat (IntKind.wrap .u8 a0.Kind:Int).toNat],a0.Cn,a0.Sn,(FD [] a0.Tick 4),a0.Cookie]:List (List UInt8)); .s ?_)))
  λh3=> .c (λh4=> .m (qA ?_) (have:=PG [] a0.Tick 4; .m (qA ?_) (have:=oI ([[UInt8.ofNat (IntKind.wrap .u8 a0.Kind:Int).toNat],[UInt8.ofNat (IntKind.wrap .u8 a0.Id:Int).toNat],a0.Cn,a0.Sn,(FD [] a0.Tick 4),a0.Cookie,a0.Proof]:List (List UInt8)); .s ?_)))
  λh4=> .m (qA ?_) (have:=PG [] a0.Epoch 4; .m (qA ?_) (have:=PG [] a0.Seq 6; .m (qA ?_) (have:=oI ([[UInt8.ofNat (IntKind.wrap .u8 a0.Kind:Int).toNat],a0.Sn,(FD [] a0.Epoch 4),(FD [] a0.Seq 6),a0.Tag,a0.Body]:List (List UInt8)); .s ?_))))
 all_goals first | trivial | ((try simp only[NB,List.length_replicate]at *)<;>omega) | grind [eA,nA]
def ziv{a0 a1 a2}(ha:wt a2≤1000000000):Ok (Gb a0 a1 a2) λr=>wt r≤200∧(GA a0=true→GA a1=true→PE r=true)∧(r.From=a0∧r.To=a1):=by
 unfold Gb;refine .b (ze1 ?_) λr1 NV=> .s ⟨?_,?_,?_⟩
 all_goals first | trivial | ((try simp only[NB]at *)<;>omega) | grind [eA,nA,PE]
def zaQ{a0 a1}(ha:wt a0≤1000000)(hb:wt a1≤1000000):Ok (Cj a0 a1) λr=>wt r≤201 *a1.length∧(GA a0.At=true→CI r a0.At∧fP r):=by
 unfold Cj;refine have hw:=zB a1;have:=zmA;
 .j (λy1:(List Ap)=>wt y1≤201 *a1.length∧(GA a0.At=true→CI y1 a0.At∧fP y1)) (λy1 lW=> .s ⟨?_,?_⟩)
  λk2 IV=> .l (λx3:(List Ap)×Int=>(0≤x3.2∧x3.2≤(a1.length:Int))∧wt x3.1≤201 *x3.2∧(GA a0.At=true→CI x3.1 a0.At∧fP x3.1)) (λx3:(List Ap)×Int=>((a1.length:Int) - x3.2).toNat) (λx3 DY k4 QV=> .c (λh1=> .bi ?_ ?_ λe5 BX tX=> .b (ziv ?_) λr7 HW=> .g ?_ (QV _ ⟨?_,?_,?_⟩ ?_))
  λh1=>IV _ ⟨?_,?_⟩) ⟨?_,?_,?_⟩ ?_
 all_goals first | trivial | ((try simp only[NB]at *)<;>(try simp(disch:=omega) only[DA,LA]at *)<;>omega) | grind [eA,nA,CI,fP]
def zfa{a0}(ha:wt a0≤1000000)(hb:∀o∈a0,GA o.To=true):Ok (Dx a0) λr=>wt r≤201 *a0.length∧CI r BE:=by
 unfold Dx;refine have hw:=zB a0;have:=zmA;
 .j (λy1:(List Ap)=>wt y1≤201 *a0.length∧CI y1 BE) (λy1 lW=> .s ⟨?_,?_⟩)
  λk2 IV=> .l (λx3:(List Ap)×Int=>(0≤x3.2∧x3.2≤(a0.length:Int))∧wt x3.1≤201 *x3.2∧CI x3.1 BE) (λx3:(List Ap)×Int=>((a0.length:Int) - x3.2).toNat) (λx3 DY k4 QV=> .c (λh1=> .bi ?_ ?_ λe5 BX tX=>have:=hb _ (List.mem_of_getElem? BX); .b (ziv ?_) λr7 HW=> .g ?_ (QV _ ⟨?_,?_,?_⟩ ?_))
  λh1=>IV _ ⟨?_,?_⟩) ⟨?_,?_,?_⟩ ?_
 all_goals first | trivial | ((try simp only[NB]at *)<;>(try simp(disch:=omega) only[DA,LA]at *)<;>omega) | grind [eA,nA,CI]
end Go.D
namespace Go.D
def zsk{a0 a1 a2}(ha:kD a0=true):Ok (Ie a0 a1 a2) λr=>kD r=true:=by
 unfold Ie;refine have:=KI ha;have:=iT a0 a1;
 .m (qA ?_) (.j0 (.c (λh1=> .kt (.s ?_))
  λh1=>have:=KI (nf h1); .c (λh2=> .kt (.s ?_))
  λh2=>have:=GF (nf h2); .c (λh3=> .s ?_)
  λh3=> .j0 (.c (λh4=> .h ?_ (.bg ?_ λe6 xY sX=>have hg:=zhc ha xY;have hx:=zal (iA .i64 e6.Got a2) 1000000;have hk:=@zmM a0 _ e6 (pD (iA .i64 e6.Got a2) 1000000) e6.Sent ha xY; .h ?_ (.m xY (.s (have:=EC a0 ((oB a0 a1).toNat) (⟨e6.A,pD (iA .i64 e6.Got a2) 1000000,e6.Sent⟩:Al);?_)))))
  λh4=> .j0 (.c (λh5=> .g ?_ (.s ?_))
  λh5=> .s ?_))))
 all_goals first | trivial | ((try simp only[NB]at *)<;>(try simp(disch:=omega) only[DA,LA]at *)<;>omega) | grind [eA,nA,DA,zw8]
def AH{a0 a1}(ha:a0.length≤900000000)(hb:0≤a1∧a1≤100):Ok (Bl a0 a1) λr=>r.1.length≤a1∧r.2.length≤a0.length:=by
 unfold Bl;refine have hm:=zal a1 (a0.length:Int);
 .h ?_ (.m (qA (have:=wD (List.drop 0 a0) ((pD a1 (a0.length:Int) - 0).toNat);have:=RE a0 0;?_)) (.h ?_ (.s (have:=wD (List.drop 0 a0) ((pD a1 (a0.length:Int) - 0).toNat);have:=wD (List.drop ((pD a1 (a0.length:Int)).toNat) a0) (((a0.length:Int) - (pD a1 (a0.length:Int))).toNat);have:=RE a0 0;have:=RE a0 ((pD a1 (a0.length:Int)).toNat);⟨?_,?_⟩))))
 all_goals first | trivial | ((try simp only[NB]at *)<;>omega) | grind [eA,nA]
def SL{a0 a1}(ha:a0.length≤900000000)(hb:0≤a1∧a1≤100):Ok (Ck a0 a1) λr=>r.2.length≤a0.length:=by
 unfold Ck;refine .b (AH ?_ ?_) λr1 NV=> .m (qA ?_) (.s ?_)
 all_goals first | trivial | ((try simp only[NB]at *)<;>omega) | grind [eA,nA]
def ziB{a0}(ha:wt a0≤900000000):Ok (Dc a0) λr=>wt r.1≤200∧(r.2=true→wB r.1=true):=by
 unfold Dc
 refine .b (SL ?_ ?_) λr1 NV=> .j (λy2:(List UInt8)×Ab=>y2.1.length≤a0.length∧wt y2.2≤200) (λy2 xW=> .j0 (.m (qA ?_) (.c (λh1=> .kt (.s ⟨?_,?_⟩))
  λh1=>have:=uD (nf h1); .b (ze1 ?_) λr30 o0=> .m (qA ?_) (.c (λh2=> .s ⟨?_,?_⟩)
  λh2=> .s ⟨?_,?_⟩))))
  λk3 JV=> .c (λh3=> .b (SL ?_ ?_) λr4 UV=> .b (AH ?_ ?_) λr5 RV=>JV _ ⟨?_,?_⟩)
  λh3=> .j0 (.c (λh4=> .j0 (.kt (.j (λy10:(List UInt8)×Ab=>y10.1.length≤a0.length∧wt y10.2≤0) (λy10 aX=> .b (AH ?_ ?_) λr13 eX=> .b (AH ?_ ?_) λr14 lX=> .b (SL ?_ ?_) λr15 NW=> .b (AH ?_ ?_) λr16 mX=> .j0 (.c (λh5=> .b (AH ?_ ?_) λr19 IX=>JV _ ⟨?_,?_⟩)
  λh5=>JV _ ⟨?_,?_⟩))
  λk11 PV=> .c (λh6=> .b (SL ?_ ?_) λr12 yW=>PV _ ⟨?_,?_⟩)
  λh6=>PV _ ⟨?_,?_⟩)))
  λh4=> .j0 (.c (λh7=> .j (λy10:(List UInt8)×Ab=>y10.1.length≤a0.length∧wt y10.2≤0) (λy10 aX=> .b (AH ?_ ?_) λr13 eX=> .b (AH ?_ ?_) λr14 lX=> .b (SL ?_ ?_) λr15 NW=> .b (AH ?_ ?_) λr16 mX=> .j0 (.c (λh8=> .b (AH ?_ ?_) λr19 IX=>JV _ ⟨?_,?_⟩)
  λh8=>JV _ ⟨?_,?_⟩))
  λk11 PV=> .c (λh9=> .b (SL ?_ ?_) λr12 yW=>PV _ ⟨?_,?_⟩)
  λh9=>PV _ ⟨?_,?_⟩)
  λh7=> .j0 (.c (λtW=> .b (AH ?_ ?_) λr22 fX=> .b (SL ?_ ?_) λr23 cZ=> .b (SL ?_ ?_) λr24 uX=> .b (AH ?_ ?_) λr25 vX=> .b (AH ?_ ?_) λr26 JX=>JV _ ⟨?_,?_⟩)
  λtW=>JV _ ⟨?_,?_⟩)))
 all_goals first | trivial | ((try simp only[NB]at *)<;>omega) | grind [eA,nA]
def zjR{a0 a1}(ha:wt a0≤1000000):Ok (Dd a0 a1) λr=>True:=by
 unfold Dd;refine have hw:=zB a0.L;
 .j0 (.l (λx3:Int=>0≤x3∧x3≤(a0.L.length:Int)) (λx3:Int=>((a0.L.length:Int) - x3).toNat) (λx3 DY k4 QV=> .c (λh1=> .bi ?_ ?_ λe5 BX tX=> .j0 (.c (λh2=> .c (λh3=> .s ?_)
  λh3=>QV _ ?_ ?_)
  λh2=> .kf (QV _ ?_ ?_)))
  λh1=> .s ?_) ?_ ?_)
 all_goals first | trivial | ((try simp only[NB]at *)<;>(try simp(disch:=omega) only[DA,LA]at *)<;>omega) | grind [eA,nA]
def ziP{a0 a1}(ha:wt a0≤1000000):Ok (Bw a0 a1) λr=>kD a0=true→0≤oB a0 a1→∀e,a0[(oB a0 a1).toNat]?=some e→r=3 *e.Got - e.Sent:=by
 unfold Bw;refine have hw:=zB a0;have:=iT a0 a1;
 .j0 (.c (λh1=> .kt (.s ?_))
  λh1=>have:=KI (nf h1); .c (λh2=> .s ?_)
  λh2=> .bi ?_ ?_ λe3 X4 U2=>have hg:=λh=>@zhc a0 _ e3 h X4;have:=@zhq e3.Got;have:=@LA (3 *e3.Got) e3.Sent; .bi ?_ ?_ λe4 rZ TY=>match(Option.some.inj (X4.symm.trans rZ):e3=e4)with | rfl=>(.s ?_))
 all_goals first | trivial | ((try simp only[NB]at *)<;>(try simp(disch:=omega) only[DA,LA]at *)<;>omega) | grind [eA,nA]
def zi3{a0 a1 a2}(ha:wt a0≤10000):Ok (Gd a0 a1 a2) λr=>True:=by
 unfold Gd
 refine .j0 (.b (zjR ?_) λr3 _=> .c (λh1=> .s ?_)
  λh1=> .b (ziP ?_) λr4 UV=> .s ?_)
 all_goals first | trivial | ((try simp only[NB]at *)<;>omega) | grind [eA,nA]
def zqm{a0 a1}(ha:wt a0≤1000000000):Ok (If a0 a1) λr=>r.length≤a0.length+12:=by
 unfold If
 refine .c (λh1=> .m (qA ?_) (.s ?_))
  λh1=>have:=GF (nf h1); .m (qA ?_) (have:=PG a0 a1.Host 4; .m (qA ?_) (have:=PG (FD a0 a1.Host 4) a1.Port 2; .s ?_))
 all_goals first | trivial | ((try simp only[NB]at *)<;>omega) | grind [eA,nA]
def ze5{a0 a1 a2 a3 a4}(ha:wt a2≤1000000000)(hb:wt a3≤1000000000):Ok (Et a0 a1 a2 a3 a4) λr=>r.length≤60:=by
 unfold Et
 refine .j0 (.c (λh1=> .kt (.s ?_))
  λh1=>have:=GF (nf h1); .c (λh2=> .kt (.s ?_))
  λh2=> .c (λh3=> .kt (.s ?_))
  λh3=>have:=ZJ (nf h3); .c (λh4=> .kt (.s ?_))
  λh4=>have:=ZJ (nf h4); .c (λh5=> .s ?_)
  λh5=> .b (zqm ?_) λr3 uW=> .m (qA ?_) (have:=PG [] a4 4; .m (qA ?_) (have:=oI ([r3,[UInt8.ofNat (IntKind.wrap .u8 a1:Int).toNat],a2,a3,(FD [] a4 4)]:List (List UInt8)); .s ?_)))
 all_goals first | trivial | ((try simp only[NB]at *)<;>omega) | grind [eA,nA]
def zjS{a0 a1 a2 a3 a4 a5}(ha:wt a3≤1000000000)(hb:wt a4≤1000000000):Ok (Ge a0 a1 a2 a3 a4 a5) λr=>r.length≤16:=by
 unfold Ge
 refine .b (ze5 ?_ ?_) λr1 NV=> .j0 (.c (λh1=> .kt (.s ?_))
  λh1=>have:=zdy (nf h1); .c (λh2=> .s ?_)
  λh2=> .b kV λr4 UV=> .s ?_)
 all_goals first | trivial | ((try simp only[NB]at *)<;>omega) | grind [eA,nA]
def zrL{a0 a1}:Ok (Cv a0 a1) λr=>True:=by
 unfold Cv
 refine .j0 (.c (λh1=> .c (λh2=> .s ?_)
  λh2=> .s ?_)
  λh1=> .s ?_)
 all_goals first | trivial | ((try simp only[NB]at *)<;>(try simp(disch:=omega) only[DA,LA]at *)<;>omega) | grind [eA,nA]
def zjQ{a0 a1}(ha:wt a0≤1000000000)(hb:wt a1≤1000000000):Ok (Bo a0 a1) λr=>True:=by
 unfold Bo
 refine .c (λh1=> .s ?_)
  λh1=> .j0 (.l (λx3:Int×Int=>0≤x3.2∧x3.2≤(a0.length:Int)) (λx3:Int×Int=>((a0.length:Int) - x3.2).toNat) (λx3 DY k4 QV=> .c (λh2=> .bi ?_ ?_ λe5 BX tX=> .bi ?_ ?_ λe6 xY sX=>QV _ ?_ ?_)
  λh2=> .s ?_) ?_ ?_)
 all_goals first | trivial | ((try simp only[NB]at *)<;>(try simp(disch:=omega) only[DA,LA]at *)<;>omega) | grind [eA,nA]
def zfc{a0 a1}(ha:wt a0≤1000000000)(hb:wt a1≤1000000000):Ok (Bm a0 a1) λr=>True:=by
 unfold Bm
 refine .j0 (.c (λh1=> .b (zjQ ?_ ?_) λr3 _=> .s ?_)
  λh1=> .s ?_)
 all_goals first | trivial | ((try simp only[NB]at *)<;>omega) | grind [eA,nA]
def zrr{a0 a1 a2 a3}(ha:wt a3≤1000):Ok (Ig a0 a1 a2 a3) λr=>r=0→a3.Kind=3∧wB a3=true:=by
 unfold Ig
 refine .j0 (.c (λh1=> .kt (.s ?_))
  λh1=>have:=zdy (nf h1); .c (λh2=> .kt (.s ?_))
  λh2=> .c (λh3=> .kt (.s ?_))
  λh3=>have:=GF (nf h3); .c (λh4=> .kt (.s ?_))
  λh4=> .m (qA ?_) (.c (λh5=> .s ?_)
  λh5=>have:=uD (nf h5); .b zrL λr4 _=> .c (λh6=> .s ?_)
  λh6=> .b (zjS ?_ ?_) λr5 RV=> .b (zfc ?_ ?_) λr6 _=> .c (λh7=> .s ?_)
  λh7=> .s ?_))
 all_goals first | trivial | ((try simp only[NB]at *)<;>omega) | grind [eA,nA]
def ziN{a0 a1}:Ok (Bx a0 a1) λr=>r=ZC a0 a1:=by
 unfold Bx;refine have:=iL a0 a1;
 .s ?_
 all_goals first | trivial | ((try simp only[NB]at *)<;>omega) | grind [eA,nA]
def zeV{a0}:Ok (Bh a0) λr=>r.length=32∨r.length=0:=by
 unfold Bh
 refine .c (λh1=> .s ?_)
  λh1=>have:=kL (nf h1); .b ziN λr2 eW=>have:=zmO [UInt8.ofNat (114:Int).toNat,UInt8.ofNat (111:Int).toNat,UInt8.ofNat (97:Int).toNat,UInt8.ofNat (109:Int).toNat] a0; .m (qA ?_) (have:=wM r2 [102,105,110,105,115,104];have:=@AM r2 [102,105,110,105,115,104]; .s ?_)
 all_goals first | trivial | ((try simp only[NB]at *)<;>omega) | grind [eA,nA]
def zeY{a0 a1 a2 a3 a4}(ha:wt a1≤1000000000)(hb:wt a2≤1000000000)(hc:wt a4≤1000000000):Ok (De a0 a1 a2 a3 a4) λr=>r.length≤60:=by
 unfold De
 refine .j0 (.c (λh1=> .kt (.s ?_))
  λh1=> .c (λh2=> .kt (.s ?_))
  λh2=>have:=ZJ (nf h2); .c (λh3=> .kt (.s ?_))
  λh3=>have:=ZJ (nf h3); .c (λh4=> .kt (.s ?_))
  λh4=> .c (λh5=> .s ?_)
  λh5=> .m (qA ?_) (have:=PG [] a3 4; .m (qA ?_) (have:=oI [([UInt8.ofNat (102:Int).toNat,UInt8.ofNat (IntKind.wrap .u8 a0:Int).toNat]:List UInt8),a1,a2,(FD [] a3 4),a4]; .s ?_)))
 all_goals first | trivial | ((try simp only[NB]at *)<;>omega) | grind [eA,nA]
def zjl{a0 a1 a2 a3 a4 a5}(ha:wt a2≤1000000000)(hb:wt a3≤1000000000)(hc:wt a5≤1000000000):Ok (Ds a0 a1 a2 a3 a4 a5) λr=>r.length=0∨r.length=16:=by
 unfold Ds
 refine .b zeV λr1 NV=> .b (zeY ?_ ?_ ?_) λr2 eW=>have:=@KH r1 r2; .j0 (.c (λh1=> .kt (.s ?_))
  λh1=> .c (λh2=> .s ?_)
  λh2=> .b kV λr5 RV=> .s ?_)
 all_goals first | trivial | ((try simp only[NB]at *)<;>omega) | grind [eA,nA]
def zp9{a0 a1}(ha:wt a1≤1000):Ok (Ih a0 a1) λr=>True:=by
 unfold Ih
 refine .j0 (.c (λh1=> .m (qA ?_) (.c (λh2=>have:=uD h2; .b (zjl ?_ ?_ ?_) λr4 UV=> .b (zfc ?_ ?_) λr5 _=> .s ?_)
  λh2=> .s ?_))
  λh1=> .s ?_)
 all_goals first | trivial | ((try simp only[NB]at *)<;>omega) | grind [eA,nA]
def zpM{a0}:Ok (Cf a0) λr=>r=⟨a0,[]⟩:=by
 unfold Cf;refine .s ?_
 all_goals first | trivial | ((try simp only[NB]at *)<;>omega) | grind [eA,nA]
def zqj{a0 a1 a2}(ha:GC a0=true)(hb:a1.length=12)(hc:a2.length=12):Ok (Ii a0 a1 a2) λr=>r.length=32:=by
 unfold Ii;refine have:=kL ha;have hm:=@KH (List.flatten [a1,a2]) a0;
 .j0 (.c (λh1=> .kt (.s ?_))
  λh1=>have:=kL (nf h1); .c (λh2=> .kt (.s ?_))
  λh2=>have:=ZJ (nf h2); .c (λh3=> .s ?_)
  λh3=>have:=ZJ (nf h3); .m (qA ?_) (have:=oI [a1,a2]; .b ziN λr4 UV=> .s ?_))
 all_goals first | trivial | ((try simp only[NB]at *)<;>omega) | grind [eA,nA]
def zpI{a0}:Ok (Cw a0) λr=>a0.length=32→r.length=32:=by
 unfold Cw
 refine .c (λh1=> .s ?_)
  λh1=> .m (qA ?_) (have:=wM a0 [101,112,111,99,104];have:=@AM a0 [101,112,111,99,104]; .s ?_)
 all_goals first | trivial | ((try simp only[NB]at *)<;>omega) | grind [eA,nA]
def zrO{a0 a1}(ha:a0.length≤100):Ok (Ij a0 a1) λr=>a1=0→r=a0:=by
 unfold Ij
 refine .c (λh1=> .s ?_)
  λh1=> .m (qA ?_) (.j (λy2:(List UInt8)=>y2.length≤200∧(a1=0→y2=a0)) (λy2 xW=> .s ?_)
  λk3 JV=> .l (λx4:(List UInt8)×Int=>(0≤x4.2∧x4.2≤64)∧x4.1.length≤200∧(a1=0→x4.1=a0)) (λx4:(List UInt8)×Int=>(64 - x4.2).toNat) (λx4 P5 k5 dW=> .c (λh2=> .m (qA ?_) (have:=wM x4.1 [114,101,107,101,121];have:=@AM x4.1 [114,101,107,101,121];dW _ ⟨?_,?_,?_⟩ ?_))
  λh2=>JV _ ⟨?_,?_⟩) ⟨?_,?_,?_⟩ ?_)
 all_goals first | trivial | ((try simp only[NB]at *)<;>(try simp(disch:=omega) only[DA,LA]at *)<;>omega) | grind [eA,nA]
def ziD{a0 a1 a2 a3}(ha:GC a0=true)(hb:a1.length=12)(hc:a2.length=12):Ok (Gf a0 a1 a2 a3) λr=>a3=0→r.length=32:=by
 unfold Gf
 refine .b (zqj ?_ ?_ ?_) λr1 NV=> .b zpI λr2 eW=> .c (λh1=> .s ?_)
  λh1=> .b (zrO ?_) λr3 uW=> .s ?_
 all_goals first | trivial | ((try simp only[NB]at *)<;>omega) | grind [eA,nA]
def zfs{a0 a1}(ha:0≤a0∧a0≤4294967295)(hb:a1.length=32):Ok (Df a0 a1) λr=>aD r=true∧(r.N=a0∧r.Key=a1∧r.Seq=0):=by
 unfold Df
 refine .j0 (.c (λh1=> .kt (.s ⟨?_,?_⟩))
  λh1=> .c (λh2=> .s ⟨?_,?_⟩)
  λh2=> .m (qA ?_) (.b zrj λr4 UV=> .s ⟨?_,?_⟩))
 all_goals first | trivial | ((try simp only[NB]at *)<;>omega) | grind [eA,nA,aD]
def ziJ{a0 a1 a2}(ha:a0=0∨a0=1)(hb:a1.length=12)(hc:a2.length=32):Ok (Gg a0 a1 a2) λr=>nC r=true∧(r.Role=a0∧r.Sn=a1∧r.Cur.N=0∧r.HasOld=false∧r.Next=[]):=by
 unfold Gg
 refine .j0 (.c (λh1=> .kt (.s ⟨?_,?_⟩))
  λh1=> .c (λh2=> .kt (.s ⟨?_,?_⟩))
  λh2=>have:=ZJ (nf h2); .c (λh3=> .s ⟨?_,?_⟩)
  λh3=> .m (qA ?_) (.b (zfs ?_ ?_) λr4 UV=> .s ⟨?_,?_⟩))
 all_goals first | trivial | ((try simp only[NB]at *)<;>omega) | grind [eA,nA,nC,TG,XF,NA]
def zqc{a0 a1 a2 a3}(ha:GC a0=true)(hb:eA a1 0 1000000=true)(hc:GA a2=true)(hd:wB a3=true)(he:a3.Kind=3):Ok (Eu a0 a1 a2 a3) λr=>vC r=true∧(r.Id=a3.Id∧r.Sn=a3.Sn∧r.Cn=a3.Cn∧r.Dead=false):=by
 unfold Eu;refine have:=uD hd;have:=zmt hd he;have:=@zum a2 hc;
 .j0 (.c (λh1=> .kt (.s ⟨?_,?_⟩))
  λh1=>have:=kL (nf h1); .c (λh2=> .kt (.s ⟨?_,?_⟩))
  λh2=> .c (λh3=> .kt (.s ⟨?_,?_⟩))
  λh3=>have:=GF (nf h3); .c (λh4=> .kt (.s ⟨?_,?_⟩))
  λh4=> .m (qA ?_) (.c (λh5=> .s ⟨?_,?_⟩)
  λh5=>have:=uD (nf h5); .m (qA ?_) (.m (qA ?_) (.b zpM λr6 vW=> .b (ziD ?_ ?_ ?_) λr7 HW=> .b (ziJ ?_ ?_ ?_) λr8 sW=> .s ⟨?_,?_⟩))))
 all_goals first | trivial | ((try simp only[NB]at *)<;>omega) | grind [eA,nA,vC]
def ziU{a0 a1}(ha:TC a0=true)(hb:wt a1≤400):Ok (Bi a0 a1) λr=>TC r.1=true∧(∀e∈r.1.L,e∈a0.L∨e=a1)∧(r.2=0→0≤OE r.1 a1.Sn):=by
 unfold Bi;refine have:=qL ha;have:=@zuM a0.Cap a0.L a1;
 .m (qA ?_) (.j0 (.m (qA ?_) (.c (λh1=> .kt (.s ⟨?_,?_,?_⟩))
  λh1=>have:=qL (nf h1); .m (qA ?_) (.c (λh2=> .kt (.s ⟨?_,?_,?_⟩))
  λh2=>have:=bL (nf h2); .c (λh3=> .s ⟨?_,?_,?_⟩)
  λh3=> .m (qA ?_) (have:=eO a0 a1.Sn; .c (λh4=> .s ⟨?_,?_,?_⟩)
  λh4=> .j0 (.m (qA ?_) (.c (λh5=> .kt (.s ⟨?_,?_,?_⟩))
  λh5=> .c (λh6=> .s ⟨?_,?_,?_⟩)
  λh6=> .m (qA ?_) (.g ?_ (.s ⟨?_,?_,?_⟩)))))))))
 all_goals first | trivial | ((try simp only[NB]at *)<;>omega) | grind [eA,nA,zvM]
def zb5{a0 a1 a2}(ha:a0.length=32∨a0.length=0)(hb:a1.length=12∨a1.length=0)(hc:a2.length≤100):Ok (Dt a0 a1 a2) λr=>mC r=true:=by
 unfold Dt;refine .m (qA ?_) (.m (qA ?_) (.m (qA ?_) (.s ?_)))
 all_goals first | trivial | ((try simp only[NB]at *)<;>omega) | grind [eA,nA,mC,WC,UD,GA,vD,AC,xE]
def zkt{a0}(ha:nC a0=true):Ok (Gh a0) λr=>nC r.1=true∧(r.1.Role=a0.Role∧r.1.Sn=a0.Sn∧r.1.Next=a0.Next∧r.1.Cur.N=a0.Cur.N∧r.1.HasOld=a0.HasOld)∧wt r.2.1≤300∧wH r.2.1 a0.Sn:=by
 unfold Gh;refine have:=XC ha;
 .j0 (.m (qA ?_) (.c (λh1=> .kt (.m (qA ?_) (.s ⟨?_,?_,?_,?_⟩)))
  λh1=>have:=XC (nf h1); .c (λh2=> .m (qA ?_) (.s ⟨?_,?_,?_,?_⟩))
  λh2=> .b zeX λr5 RV=> .b (rP ?_ ?_) λr6 vW=> .s ⟨?_,?_,?_,?_⟩))
 all_goals first | trivial | ((try simp only[NB]at *)<;>omega) | grind [eA,nA,wH]
def ziR{a0}(ha:vC a0=true):Ok (Ev a0) λr=>XE a0 r.1∧HE r.2.1∧(r.2.1.length≤1∧wt r.2.1≤400)∧iC r.2.2∧r.2.2.length≤1:=by
 unfold Ev;refine have:=mF ha;have hl:=@WM a0 ha;have:=iO ha;
 .m (qA ?_) (.j0 (.m (qA ?_) (.c (λh1=> .kt (.s ⟨?_,?_,?_,?_,?_⟩))
  λh1=>have:=bL (nf h1); .c (λh2=> .kt (.s ⟨?_,?_,?_,?_,?_⟩))
  λh2=> .c (λh3=> .s ⟨?_,?_,?_,?_,?_⟩)
  λh3=> .b (zkt ?_) λr5 RV=> .c (λh4=> .s ⟨?_,?_,?_,?_,?_⟩)
  λh4=> .b (WL ?_ ?_) λr6 vW=> .s ⟨?_,?_,?_,?_,?_⟩)))
 all_goals first | trivial | ((try simp only[NB]at *)<;>omega) | grind [eA,nA,MM,yO,iH,vD,AC]
def zaV{a0 a1 a2}(ha:TC a0=true)(hb:wt a2≤400):Ok (Bs a0 a1 a2) λr=>TC r.1=true∧(∀e∈r.1.L,e∈a0.L∨e=a2)∧r.1.L.length=a0.L.length:=by
 unfold Bs;refine have:=qL ha;
 .m (qA ?_) (.j0 (.m (qA ?_) (.c (λh1=> .kt (.s ⟨?_,?_,?_⟩))
  λh1=>have:=qL (nf h1); .c (λh2=> .kt (.s ⟨?_,?_,?_⟩))
  λh2=> .c (λh3=> .s ⟨?_,?_,?_⟩)
  λh3=> .m (qA ?_) (.h ?_ (.bg ?_ λe6 xY sX=> .m (qA (have:=EC a0.L a1.toNat a2;?_)) (.c (λh4=> .m (qA ?_) (.s ⟨?_,?_,?_⟩))
  λh4=>have:=qL (nf h4); .s (have:=EC a0.L a1.toNat a2;⟨?_,?_,?_⟩)))))))
 all_goals first | trivial | ((try simp only[NB]at *)<;>omega) | grind [eA,nA,zgA]
def zpY{a0 a1 a2 a3}(ha:KB a0=true)(hb:eA a1 0 1000000=true)(hc:GA a2=true)(hd:wB a3=true):Ok (Ky a0 a1 a2 a3) λr=>KB r.1=true∧r.1.Psks=a0.Psks∧HE r.2.1∧(r.2.1.length≤2∧wt r.2.1≤1000)∧iC r.2.2∧r.2.2.length≤8:=by
 unfold Ky;refine have:=DF ha;have hs:=rF.1 ha;have:=hs.jar;have:=hs.dice;have:=uD hd;
 .j0 (.c (λh1=> .kt (.s ⟨?_,?_,?_,?_,?_,?_⟩))
  λh1=> .b (zi3 ?_) λr3 _=> .c (λh2=> .kt (.s ⟨?_,?_,?_,?_,?_,?_⟩))
  λh2=> .c (λh3=> .s ⟨?_,?_,?_,?_,?_,?_⟩)
  λh3=> .m (qA ?_) (have:=sL a0.D; .b (zjS ?_ ?_) λr5 RV=> .m (qA ?_) (.m (qA ?_) (.b (ze5 ?_ ?_) λr8 sW=> .b (zfx ?_ ?_) λr9 QW=> .m (qA ?_) (have:=zcU (RC a0.D).2;have:=@zcd (RC a0.D).2; .s ⟨?_,?_,?_,?_,?_,?_⟩)))))
 all_goals first | trivial | ((try simp only[NB]at *)<;>omega) | grind [eA,nA,KB,QE,yO,iH,LE,mC,WC,UD,GA,vD,AC,xE]
def zoV{a0 a1 a2 a3}(ha:KB a0=true)(hb:eA a1 0 1000000=true)(hc:GA a2=true)(hd:wB a3=true):Ok (La a0 a1 a2 a3) λr=>KB r.1=true∧r.1.Psks=a0.Psks∧HE r.2.1∧(r.2.1.length≤2∧wt r.2.1≤1000)∧iC r.2.2∧r.2.2.length≤8:=by
 unfold La;refine have:=DF ha;have hs:=rF.1 ha;have:=hs.jar;have:=hs.tab;have:=uD hd;have hf3:=@zmt a3 hd;have hw:=zB a0.T.L;have hp:=zB a0.Psks;
 .j0 (.b (zrr ?_) λr3 uW=> .c (λh1=> .kt (.s ⟨?_,?_,?_,?_,?_,?_⟩))
  λh1=> .c (λh2=> .kt (.s ⟨?_,?_,?_,?_,?_,?_⟩))
  λh2=> .bm ?_ ?_ λe4 rZ TY=>have:=hs.psk e4 rZ; .b (zp9 ?_) λr5 _=> .c (λh3=> .s ⟨?_,?_,?_,?_,?_,?_⟩)
  λh3=> .m (qA ?_) (have:=eO a0.T a3.Sn; .j (λy7:(List Ad)×Ac×Ac=>iC y7.1∧y7.1.length≤3∧KB y7.2.2=true∧y7.2.2.Psks=a0.Psks∧0≤OE y7.2.2.T a3.Sn) (λy7 aY=>have⟨hn7,hm7,hs7,hp7,hf7⟩:=aY;have:=DF hs7;have S:=rF.1 hs7;have:=S.tab;have:=CE hn7; .m (qA ?_) (have:=eO y7.2.2.T a3.Sn; .bm ?_ ?_ λe22 wZ L1=>have G0:=(bF.1 S.tab).el _ wZ;have:=mF G0; .j0 (.c (λh4=> .kt (.s ⟨?_,?_,?_,?_,?_,?_⟩))
  λh4=> .c (λh5=> .kt (.s ⟨?_,?_,?_,?_,?_,?_⟩))
  λh5=> .m (qA ?_) (.c (λh6=> .s ⟨?_,?_,?_,?_,?_,?_⟩)
  λh6=> .b (ziR ?_) λr26 JX=>have:=mF JX.1.1;have:=CE JX.2.2.2.1; .b (zaV ?_ ?_) λr27 tY=>have W3:=rJ (d:=⟨y7.2.2.Psks,y7.2.2.J,y7.2.2.D,r27.1,y7.2.2.Cr⟩) hs7 rfl S.jar S.dice tY.1 S.cr (λe he=>(tY.2.1 e he).elim (S.id e) λh=>by rw[h,JX.1.2.1];exact S.id _ wZ);have WW:=xE.2 ⟨hn7,JX.2.2.2.1⟩; .g ?_ (.s ⟨?_,?_,?_,?_,?_,?_⟩)))))
  λk8 pW=> .c (λh7=> .bm ?_ ?_ λe9 LZ CY=>have hpk:=hs.psk e9 LZ; .b (zqc ?_ ?_ ?_ ?_ ?_) λr10 rW=>have:=mF rW.1;have hch:=XC (WM rW.1 rW.2.2.2.2).1; .b (ziU ?_ ?_) λr11 zW=>have W3:=rJ (d:=⟨a0.Psks,a0.J,a0.D,r11.1,a0.Cr⟩) ha rfl hs.jar hs.dice zW.1 hs.cr (λe he=>(zW.2.1 e he).elim (hs.id e) λh=>by rw[h,rW.2.1];simp at h2;omega); .c (λh8=> .s ⟨?_,?_,?_,?_,?_,?_⟩)
  λh8=> .b (ze5 ?_ ?_) λr12 yW=> .b (zb5 ?_ ?_ ?_) λr13 eX=> .b zeV λr14 lX=> .b (zeY ?_ ?_ ?_) λr15 NW=> .b (zb5 ?_ ?_ ?_) λr16 mX=>have WW:iC [r13,r16,(⟨4,a3.Id,0,a3.Cn,a3.Sn,0,0,[],r10.C.Cur.Key,a2,a1⟩:Ad)]:=vD.2 ⟨eX,vD.2 ⟨mX,vD.2 ⟨by grind [mC,WC,UD,eA],AC⟩⟩⟩;have:=CE WW; .m (qA ?_) (.m (qA ?_) (.m (qA ?_) (.g ?_ (pW _ ⟨?_,?_,?_,?_,?_⟩)))))
  λh7=>pW _ ⟨?_,?_,?_,?_,?_⟩))
 all_goals first | trivial | assumption | exact iH | exact AC | exact WW | ((try simp only[NB]at *)<;>(try simp(disch:=omega) only[DA,LA]at *)<;>omega) | grind [eA,nA,yO,iH,zgS,mC,WC,UD,GA,vD,AC,xE]
end Go.D
namespace Go.D
def zq9{a0 a1 a2}(ha:wt a0≤1000000000)(hb:wt a2≤1000000000):Ok (Ik a0 a1 a2) λr=>r.1.length≤a2.Body.length:=by
 unfold Ik
 refine .b (tP ?_) λr1 NV=> .j0 (.c (λh1=> .kt (.s ?_))
  λh1=> .c (λh2=> .kt (.s ?_))
  λh2=> .b kV λr4 UV=> .b (zfc ?_ ?_) λr5 _=> .c (λh3=> .s ?_)
  λh3=> .b (zfi ?_) λr6 vW=> .b (zfR ?_ ?_) λr7 HW=> .s ?_)
 all_goals first | trivial | ((try simp only[NB]at *)<;>omega) | grind [eA,nA]
def zqy{a0 a1 a2}(ha:aD a0=true)(hb:wt a2≤1000):Ok (Ew a0 a1 a2) λr=>aD r.1=true∧(r.1.N=a0.N∧r.1.Key=a0.Key∧r.1.Seq=a0.Seq)∧r.2.1.length≤a2.Body.length:=by
 unfold Ew;refine have:=epF ha;
 .m (qA ?_) (.j0 (.c (λh1=> .kt (.s ⟨?_,?_,?_⟩))
  λh1=>have:=epF (nf h1); .b (tP ?_) λr4 UV=> .c (λh2=> .kt (.s ⟨?_,?_,?_⟩))
  λh2=> .c (λh3=> .s ⟨?_,?_,?_⟩)
  λh3=> .b (zfm ?_) λr5 RV=> .c (λh4=> .s ⟨?_,?_,?_⟩)
  λh4=> .b (zq9 ?_ ?_) λr6 vW=> .c (λh5=> .s ⟨?_,?_,?_⟩)
  λh5=> .s ⟨?_,?_,?_⟩))
 all_goals first | trivial | ((try simp only[NB]at *)<;>omega) | grind [eA,nA,aD]
def zip{a0 a1 a2}(ha:nC a0=true)(hb:wt a2≤1000):Ok (Dh a0 a1 a2) λr=>nC r.1=true∧(r.1.Role=a0.Role∧r.1.Sn=a0.Sn)∧(r.1.Next=a0.Next∧r.1.Cur.N=a0.Cur.N∨r.1.Next=[]∧r.1.Cur.N≠a0.Cur.N)∧r.2.1.length≤a2.Body.length∧(r.2.2=0→wB a2=true∧jC a2.Kind=true∧eA a1 0 1000000=true):=by
 unfold Dh;refine have:=XC ha;have i1:=@DA a0.Cur.N 1;have i2:=@LA a0.Cur.N 1;have i3:=@DA a1 5;
 .m (qA ?_) (.j0 (.m (qA ?_) (.c (λh1=> .kt (.s ⟨?_,?_,?_,?_,?_⟩))
  λh1=>have:=XC (nf h1); .c (λh2=> .kt (.s ⟨?_,?_,?_,?_,?_⟩))
  λh2=> .c (λh3=> .kt (.s ⟨?_,?_,?_,?_,?_⟩))
  λh3=> .m (qA ?_) (.c (λh4=> .s ⟨?_,?_,?_,?_,?_⟩)
  λh4=>have:=uD (nf h4); .j (λy6:Bool=>y6=true→a0.HasOld=true∧a2.Epoch=a0.Old.N) (λy6 xX=> .j (λy8:Bool=>y8=true→a0.Next.length>0∧a2.Epoch=iA .i64 a0.Cur.N 1) (λy8 d7=> .j (λy10:Bool=>y10=false→(a2.Epoch=a0.Cur.N∨y6=true∨y8=true)) (λy10 aX=> .c (λh5=> .s ⟨?_,?_,?_,?_,?_⟩)
  λh5=> .jt (λy13=> .c (λh6=> .s ⟨?_,?_,?_,?_,?_⟩)
  λh6=> .j (λy15:Ax=>aD y15=true∧(y6=true∧y15=a0.Old∨y6=false∧y15=a0.Cur)) (λy15 ZZ=> .j (λy17:Ax=>aD y17=true∧(y8=true∧y17.N=a0.Cur.N+1∨y8=false∧(y6=true∧y17=a0.Old∨y6=false∧y17=a0.Cur))) (λy17 vZ=> .b (zqy ?_ ?_) λr20 EY=>have i4:=@LA r20.1.N 1; .c (λh7=> .s ⟨?_,?_,?_,?_,?_⟩)
  λh7=> .j (λy21:Ak=>nC y21=true∧(y21.Role=a0.Role∧y21.Sn=a0.Sn)∧(y21.Next=a0.Next∧y21.Cur.N=a0.Cur.N∨y21.Next=[]∧y21.Cur.N≠a0.Cur.N)) (λy21 Z0=> .s ⟨?_,?_,?_,?_,?_⟩)
  λk22 RW=> .c (λh8=> .j0 (.c (λh9=> .j0 (.c (λtW=>RW _ ⟨?_,?_,?_⟩)
  λtW=>RW _ ⟨?_,?_,?_⟩))
  λh9=> .j0 (.kf (RW _ ⟨?_,?_,?_⟩))))
  λh8=> .j0 (.c (λGW=>RW _ ⟨?_,?_,?_⟩)
  λGW=>RW _ ⟨?_,?_,?_⟩))
  λk18 PW=> .c (λUW=> .b (zfs ?_ ?_) λr19 IX=>PW _ ⟨?_,?_⟩)
  λUW=>PW _ ⟨?_,?_⟩)
  λk16 OW=> .c (λnX=>OW _ ⟨?_,?_⟩)
  λnX=>OW _ ⟨?_,?_⟩)
  λk14 SV=> .c (λjY=> .c (λHY=>SV _)
  λHY=>SV _)
  λjY=>SV _)
  λk11 PV=> .b (zjQ ?_ ?_) λr12 _=> .c (λNY=>PV _ ?_)
  λNY=> .c (λxZ=> .c (λM1=>PV _ ?_)
  λM1=>PV _ ?_)
  λxZ=>PV _ ?_)
  λk9 jX=> .c (λOZ=>jX _ ?_)
  λOZ=>jX _ ?_)
  λk7 TV=> .c (λPZ=>TV _ ?_)
  λPZ=>TV _ ?_))))
 all_goals first | trivial | ((try simp only[NB]at *)<;>(try simp(disch:=omega) only[DA,LA]at *)<;>omega) | grind [eA,nA,nC,TG]
def zje{a0 a1}(ha:nC a0=true):Ok (Gi a0 a1) λr=>r.1.length=0∨r.1.length=32:=by
 unfold Gi;refine have:=XC ha;
 .m (qA ?_) (.c (λh1=> .s ?_)
  λh1=>have:=XC (nf h1); .j (λy2:Bool=>y2=true→a0.HasOld=true) (λy2 xW=> .c (λh2=> .m (qA ?_) (.s ?_))
  λh2=> .c (λh3=> .m (qA ?_) (.s ?_))
  λh3=> .j0 (.c (λh4=> .c (λh5=> .m (qA ?_) (.s ?_))
  λh5=> .s ?_)
  λh4=> .kf (.s ?_)))
  λk3 JV=> .c (λh6=>JV _ ?_)
  λh6=>JV _ ?_)
 all_goals first | trivial | ((try simp only[NB]at *)<;>(try simp(disch:=omega) only[DA,LA]at *)<;>omega) | grind [eA,nA,nC,aD,TG]
def zrf{a0 a1 a2 a3}(ha:sC a0=true)(hb:wt a3≤1000):Ok (Gj a0 a1 a2 a3) λr=>sC r.1=true:=by
 unfold Gj;refine have:=gI ha;have hw:=zB a0.Cands;
 .m (qA ?_) (.m (qA ?_) (have:=zk3 a0 a2; .j0 (.c (λh1=> .kt (.s ?_))
  λh1=>have:=gI (nf h1); .c (λh2=> .kt (.s ?_))
  λh2=> .c (λh3=> .kt (.s ?_))
  λh3=> .bm ?_ ?_ λe5 BX tX=> .m (qA ?_) (.c (λh4=> .kt (.s ?_))
  λh4=> .bm ?_ ?_ λe7 MZ pY=> .c (λh5=> .s ?_)
  λh5=> .h ?_ (.h ?_ (.g (have:=wD a0.Cands (((DE a0 a2) - 0).toNat);have:=wD (List.drop ((iA .i64 (DE a0 a2) 1).toNat) a0.Cands) (((a0.Cands.length:Int) - (iA .i64 (DE a0 a2) 1)).toNat);have:=RE a0.Cands ((iA .i64 (DE a0 a2) 1).toNat);?_) (.s (have:=wD a0.Cands (((DE a0 a2) - 0).toNat);have:=wD (List.drop ((iA .i64 (DE a0 a2) 1).toNat) a0.Cands) (((a0.Cands.length:Int) - (iA .i64 (DE a0 a2) 1)).toNat);have:=RE a0.Cands ((iA .i64 (DE a0 a2) 1).toNat);?_))))))))
 all_goals first | trivial | exact zsH ha (by simp at h3;omega) | ((try simp only[NB]at *)<;>(try simp(disch:=omega) only[DA,LA]at *)<;>omega) | grind [eA,nA]
def zsD{a0}(ha:nC a0=true):Ok (Il a0) λr=>nC r.1=true∧(r.1.Role=a0.Role∧r.1.Sn=a0.Sn):=by
 unfold Il;refine have:=XC ha;
 .m (qA ?_) (.j0 (.m (qA ?_) (.c (λh1=> .kt (.s ⟨?_,?_⟩))
  λh1=>have:=XC (nf h1); .c (λh2=> .kt (.s ⟨?_,?_⟩))
  λh2=> .c (λh3=> .s ⟨?_,?_⟩)
  λh3=> .m (qA ?_) (have:=wM a0.Cur.Key [114,101,107,101,121];have:=@AM a0.Cur.Key [114,101,107,101,121]; .b (zfs ?_ ?_) λr6 vW=> .s ⟨?_,?_⟩))))
 all_goals first | trivial | ((try simp only[NB]at *)<;>(try simp(disch:=omega) only[DA,LA]at *)<;>omega) | grind [eA,nA,nC,TG,DA,LA]
def zpi{a0 a1 a2}(ha:nC a0=true)(hb:wt a2≤1000):Ok (Im a0 a1 a2) λr=>nC r.1=true∧(r.1.Role=a0.Role∧r.1.Sn=a0.Sn):=by
 unfold Im;refine have:=XC ha;
 .m (qA ?_) (.j0 (.m (qA ?_) (.c (λh1=> .kt (.s ⟨?_,?_⟩))
  λh1=>have:=XC (nf h1); .c (λh2=> .kt (.s ⟨?_,?_⟩))
  λh2=> .c (λh3=> .kt (.s ⟨?_,?_⟩))
  λh3=> .b zeX λr5 RV=> .m (qA ?_) (.c (λh4=> .s ⟨?_,?_⟩)
  λh4=> .c (λh5=> .s ⟨?_,?_⟩)
  λh5=> .b (zsD ?_) λr7 HW=> .j0 (.c (λh6=> .kt (.s ⟨?_,?_⟩))
  λh6=> .c (λh7=> .s ⟨?_,?_⟩)
  λh7=> .s ⟨?_,?_⟩)))))
 all_goals first | trivial | ((try simp only[NB]at *)<;>(try simp(disch:=omega) only[DA,LA]at *)<;>omega) | grind [eA,nA]
def zpp{a0 a1 a2}(ha:vC a0=true)(hb:a0.Dead=false)(hc:wt a2≤1000):Ok (Lb a0 a1 a2) λr=>XE a0 r.1∧HE r.2.1∧(r.2.1.length≤1∧wt r.2.1≤400)∧iC r.2.2∧r.2.2.length≤2∧r.1.Dead=false:=by
 unfold Lb;refine have:=mF ha;have hl:=WM ha hb;have:=iO ha;
 .b (zpi ?_ ?_) λr1 NV=>have:=XC NV.1; .c (λh1=> .s ⟨?_,?_,?_,?_,?_,?_⟩)
  λh1=> .j (λy2:(List Ad)=>iC y2∧y2.length≤1) (λy2 xW=>have:=CE xW.1; .b (zkt ?_) λr7 HW=> .c (λh2=> .s ⟨?_,?_,?_,?_,?_,?_⟩)
  λh2=> .b (WL ?_ ?_) λr8 sW=>have WW:=xE.2 ⟨xW.1,vD.2 ⟨sW,AC⟩⟩;have:=YS sW; .g ?_ (.s ⟨?_,?_,?_,?_,?_,?_⟩))
  λk3 JV=> .c (λh3=> .m (qA ?_) (.m (qA ?_) (.g ?_ (JV _ ⟨?_,?_⟩))))
  λh3=>JV _ ⟨?_,?_⟩
 all_goals first | trivial | exact MM ha (by grind) (by grind) (by grind) hl.2.2.2.1 hl.2.2.2.2.2 hb | ((try simp only[NB]at *)<;>omega) | grind [eA,nA,MM,yO,iH,mC,WC,UD,GA,vD,AC,xE]
def zif{a0 a1}(ha:sC a0=true):Ok (Du a0 a1) λr=>sC r=true∧r.At=a0.At:=by
 have hL:=DB;have hf:=gI ha;unfold Du;refine .m (qA (by omega)) (.j (λy:Aj=>y.At=a0.At∧y.Cands.Sublist a0.Cands) (λy hy=> .s ⟨?_,hy.1⟩) λk hk=> .l (λx:Int×Aj=>∃i:Nat,x.1=(i:Int)∧i≤a0.Cands.length∧x.2.At=a0.At∧x.2.Cands.Sublist (a0.Cands.take i)) (λx:Int×Aj=>((a0.Cands.length:Int) - x.1).toNat) (λx hx k' dX=>?_) ⟨0,rfl,Nat.zero_le _,rfl, .slnil⟩ (by simp only;omega))
 ·have:=zu8 ha hy.2;rwa [←hy.1]at this
 ·obtain⟨i,h1,h2,h3,h4⟩:=hx;have hs:=h4.trans (List.take_sublist _ _);refine .c (λh=>?_) λ_=>hk _ ⟨h3,hs⟩;simp only[B]at h;have X3:iA .i64 x.1 1=((i+1:Nat):Int):=by rw[h1,DA (by omega) (by omega)];omega
  refine .h (by simp only[B];omega) ?_;rw[show x.1.toNat=i by omega];refine .bg (by omega) λe he s9=>?_;have ht:=take_succ he;have hl:=hs.length_le;refine .j (λy:Aj=>y.At=a0.At∧y.Cands.Sublist (a0.Cands.take (i+1))) (λy hy=>dX _ ⟨i+1,X3,by omega,hy.1,hy.2⟩ (by simp only[X3];omega)) λk2 IV=> .c (λ_=> .g ?_ (IV _ ⟨h3,?_⟩)) λ_=>IV _ ⟨h3,?_⟩
  ·have:wt x.2.Cands≤39 *3:=by
    have:=FM 38 x.2.Cands λc hc=>by have:=zap (hs.subset hc);simp only[N]at hf this⊢;omega
    simp only[N]at hf;omega
   simp only[N]at hf s9⊢;omega
  ·rw[ht];exact h4.append (.refl _)
  ·rw[ht];exact h4.trans (List.sublist_append_left _ _)
def zrE{a0 a1 a2 a3}(ha:sC a0=true)(hb:a3.length≤100):Ok (Gk a0 a1 a2 a3) λr=>sC r.1=true∧r.1.At=a0.At∧(r.2=true→GA a2=true):=by
 unfold Gk;refine have:=gI ha;
 .j0 (.c (λh1=> .kt (.m (qA ?_) (.s ⟨?_,?_,?_⟩)))
  λh1=>have:=gI (nf h1); .c (λh2=> .kt (.m (qA ?_) (.s ⟨?_,?_,?_⟩)))
  λh2=> .c (λh3=> .kt (.m (qA ?_) (.s ⟨?_,?_,?_⟩)))
  λh3=>have:=GF (nf h3); .c (λh4=> .kt (.m (qA ?_) (.s ⟨?_,?_,?_⟩)))
  λh4=>have:=ZJ (nf h4); .c (λh5=> .m (qA ?_) (.s ⟨?_,?_,?_⟩))
  λh5=> .b (zif ?_) λr5 RV=>have:=gI RV.1;have hap:=@zuF r5 a2 a3 a1 RV.1; .j0 (.m (qA ?_) (have:=zk3 r5 a2; .c (λh6=> .kt (.m (qA ?_) (.s ⟨?_,?_,?_⟩)))
  λh6=> .c (λh7=> .m (qA ?_) (.s ⟨?_,?_,?_⟩))
  λh7=> .m (qA ?_) (.g ?_ (.s ⟨?_,?_,?_⟩)))))
 all_goals first | trivial | ((try simp only[NB]at *)<;>(try simp(disch:=omega) only[DA,LA]at *)<;>omega) | grind [eA,nA,zcw]
end Go.D

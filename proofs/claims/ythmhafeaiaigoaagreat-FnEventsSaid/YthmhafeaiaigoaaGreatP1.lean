/-
 The program's machine comes to an end; what is right stays right.
-/
import Derived.Test.YthmhafeaiaigoaaGreatE1
set_option linter.all false
namespace Go.D
def zaO{a0}:Ok (Bf a0) λr=>uD r=true∧(eA a0 0 1000000=true→r.On=true):=by
 unfold Bf
 refine .c (λh1=> .s ⟨?_,?_⟩)
  λh1=> .s ⟨?_,?_⟩
 all_goals first | trivial | ((try simp only[NB]at *)<;>(try simp(disch:=omega) only[DA,JA]at *)<;>omega) | grind [eA,nA,uD,KF,DA]
def ziS{a0}(ha:a0.Cn.length≤100):Ok (Fx a0) λr=>wt r≤a0.Cn.length:=by
 unfold Fx;refine .m (pA ?_) (.s ?_)
 all_goals first | trivial | ((try simp only[NB]at *)<;>omega) | grind [eA,nA]
def zfc{a0 a1 a2 a3}(ha:wt a1≤1000000000):Ok (Eo a0 a1 a2 a3) λr=>r.length≤25∧(0<r.length→a1.length=12):=by
 unfold Eo
 refine .j0 (.c (λh1=> .kt (.s ⟨?_,?_⟩))
  λh1=> .c (λh2=> .kt (.s ⟨?_,?_⟩))
  λh2=>have:=cK (nf h2); .c (λh3=> .kt (.s ⟨?_,?_⟩))
  λh3=> .c (λh4=> .s ⟨?_,?_⟩)
  λh4=> .m (pA ?_) (have:=NG [] a2 4; .m (pA ?_) (have:=NG [] a3 6; .m (pA ?_) (have:=oI ([[UInt8.ofNat (IntKind.wrap .u8 a0:Int).toNat],a1,(DD [] a2 4),(DD [] a3 6)]:List (List UInt8)); .s ⟨?_,?_⟩))))
 all_goals first | trivial | ((try simp only[NB]at *)<;>omega) | grind [eA,nA]
def zfH{a0 a1 a2}(ha:wt a1≤1000000000)(hb:wt a2≤1000000000):Ok (Eq a0 a1 a2) λr=>r.length≤200∧r.length≤a2.length:=by
 unfold Eq
 refine .j0 (.c (λh1=> .kt (.s ?_))
  λh1=> .c (λh2=> .kt (.s ?_))
  λh2=> .c (λh3=> .s ?_)
  λh3=> .b (zqp ?_) λr3 tW=> .j (λy4:(List UInt8)=>y4.length≤200∧y4.length≤a2.length) (λy4 BY=> .s ?_)
  λk5 gW=> .l (λx6:(List UInt8)×Int=>0≤x6.2∧x6.2≤(r3.length:Int)∧(x6.1.length:Int)=x6.2) (λx6:(List UInt8)×Int=>((r3.length:Int) - x6.2).toNat) (λx6 b7 k7 UV=> .c (λh4=> .h ?_ (.bg ?_ λe8 R3 Q2=> .bi ?_ ?_ λe9 MZ CY=> .g ?_ (UV _ ?_ ?_)))
  λh4=>gW _ ?_) ?_ ?_)
 all_goals first | trivial | ((try simp only[NB]at *)<;>(try simp(disch:=omega) only[DA,JA]at *)<;>omega) | grind [eA,nA]
def mP{a0 a1}(ha:wt a1≤1000000000):Ok (Ch a0 a1) λr=>r.length≤100:=by
 unfold Ch
 refine .j0 (.c (λh1=> .kt (.s ?_))
  λh1=> .c (λh2=> .kt (.s ?_))
  λh2=> .m (pA ?_) (.c (λh3=> .s ?_)
  λh3=>have:=sD (nf h3); .b (zfc ?_) λr4 VV=> .m (pA ?_) (have:=oI ([[UInt8.ofNat (116:Int).toNat],r4,[UInt8.ofNat (IntKind.wrap .u8 a1.Kind:Int).toNat],a1.Body]:List (List UInt8)); .s ?_)))
 all_goals first | trivial | ((try simp only[NB]at *)<;>omega) | grind [eA,nA]
def eV{a0 a1}:Ok (Bz a0 a1) λr=>r.length≤16∧(r.length=16∨(ZC a0 a1).length=0):=by
 unfold Bz;refine have hm:=qL a0 a1;have s4:=zmq a0 a1;
 .c (λh1=> .s ⟨?_,?_⟩)
  λh1=> .h ?_ (.m (pA ?_) (.s ⟨?_,?_⟩))
 all_goals first | trivial | ((try simp only[NB]at *)<;>omega) | grind [eA,nA]
def zfB{a0 a1 a2 a3 a4 a5 a6}(ha:wt a0≤1000000000)(hb:wt a2≤1000000000)(hc:wt a6≤1000000000):Ok (Dq a0 a1 a2 a3 a4 a5 a6) λr=>wt r.1≤300∧(r.1.Sn=[]∨r.1.Sn=a2)∧(r.1.Epoch=0∨r.1.Epoch=a3)∧(r.1.Seq=0∨r.1.Seq=a4):=by
 unfold Dq
 refine .m (pA ?_) (.m (pA ?_) (.j0 (.c (λh1=> .kt (.s ⟨?_,?_,?_,?_⟩))
  λh1=> .c (λh2=> .kt (.s ⟨?_,?_,?_,?_⟩))
  λh2=> .c (λh3=> .kt (.s ⟨?_,?_,?_,?_⟩))
  λh3=> .m (pA ?_) (.c (λh4=> .s ⟨?_,?_,?_,?_⟩)
  λh4=>have:=sD (nf h4); .b (zfc ?_) λr7 IW=> .b (zfH ?_ ?_) λr8 BW=> .b (mP ?_) λr9 SW=> .b eV λr10 pW=> .s ⟨?_,?_,?_,?_⟩))))
 all_goals first | trivial | ((try simp only[NB,List.length_replicate]at *)<;>omega) | grind [eA,nA]
def zqX{a0 a1 a2 a3 a4}(ha:aD a0=true)(hb:wt a2≤1000000000)(hc:wt a4≤1000000000):Ok (Er a0 a1 a2 a3 a4) λr=>aD r.1=true∧(r.1.N=a0.N∧r.1.Key=a0.Key)∧wt r.2.1≤300∧rH r.2.1 a2:=by
 unfold Er;refine have:=epF ha;
 .m (pA ?_) (.c (λh1=> .s ⟨?_,?_,?_,?_⟩)
  λh1=>have:=epF (nf h1); .b (zfB ?_ ?_ ?_) λr2 fW=> .c (λh2=> .s ⟨?_,?_,?_,?_⟩)
  λh2=> .j0 (.c (λh3=> .c (λh4=> .s ⟨?_,?_,?_,?_⟩)
  λh4=> .c (λh5=> .s ⟨?_,?_,?_,?_⟩)
  λh5=> .b (zfB ?_ ?_ ?_) λr5 RV=> .s ⟨?_,?_,?_,?_⟩)
  λh3=> .kf (.c (λh6=> .s ⟨?_,?_,?_,?_⟩)
  λh6=> .b (zfB ?_ ?_ ?_) λr5 RV=> .s ⟨?_,?_,?_,?_⟩)))
 all_goals first | trivial | ((try simp only[NB]at *)<;>(try simp(disch:=omega) only[DA,JA]at *)<;>omega) | grind [eA,nA,rH,aD,DA]
def rP{a0 a1 a2}(ha:mC a0=true)(hb:wt a2≤1000000000):Ok (Bq a0 a1 a2) λr=>mC r.1=true∧(r.1.Role=a0.Role∧r.1.Sn=a0.Sn∧r.1.Next=a0.Next∧r.1.Cur.N=a0.Cur.N∧r.1.HasOld=a0.HasOld)∧wt r.2.1≤300∧rH r.2.1 a0.Sn:=by
 unfold Bq;refine have:=YC ha;
 .m (pA ?_) (.m (pA ?_) (.c (λh1=> .s ⟨?_,?_,?_,?_⟩)
  λh1=>have:=YC (nf h1); .b (zqX ?_ ?_ ?_) λr3 tW=> .s ⟨?_,?_,?_,?_⟩))
 all_goals first | trivial | ((try simp only[NB]at *)<;>omega) | grind [eA,nA,mC,PG,rH]
def zfy{a0 a1}(ha:a0.length=32∨a0.length=0)(hb:a1.length≤100):Ok (Es a0 a1) λr=>nC r=true:=by
 unfold Es;refine .m (pA ?_) (.m (pA ?_) (.s ?_))
 all_goals first | trivial | ((try simp only[NB]at *)<;>omega) | grind [eA,nA,nC,WC,SD,GA,tD,AC,xE]
def OL{a0 a1}(ha:mC a0=true)(hb:wt a1≤1000):Ok (Br a0 a1) λr=>nC r=true:=by
 unfold Br;refine have:=YC ha;
 .b (mP ?_) λr1 OV=> .b (zfy ?_ ?_) λr2 fW=> .s ?_
 all_goals first | trivial | ((try simp only[NB]at *)<;>omega) | grind [eA,nA]
def zh8{a0 a1 a2}(ha:sB a0=true)(hb:a2.length≤300000):Ok (Hy a0 a1 a2) λr=>sB r.1=true∧(r.1.Id=a0.Id∧r.1.Psk=a0.Psk∧r.1.At=a0.At)∧iC r.2.2.1∧r.2.2.1.length≤4∧(r.2.1.length≤1∧wt r.2.1≤400):=by
 unfold Hy;refine have:=UD ha;
 .m (pA ?_) (.j0 (.m (pA ?_) (.c (λh1=> .kt (.s ⟨?_,?_,?_,?_,?_⟩))
  λh1=>have:=UD (nf h1); .c (λh2=> .kt (.s ⟨?_,?_,?_,?_,?_⟩))
  λh2=> .c (λh3=> .s ⟨?_,?_,?_,?_,?_⟩)
  λh3=> .c (λh4=> .s ⟨?_,?_,?_,?_,?_⟩)
  λh4=> .b (rP ?_ ?_) λr5 RV=> .c (λh5=> .s ⟨?_,?_,?_,?_,?_⟩)
  λh5=> .m (pA ?_) (.m (pA ?_) (.b (OL ?_ ?_) λr8 BW=> .s ⟨?_,?_,?_,?_,?_⟩)))))
 all_goals first | trivial | ((try simp only[NB]at *)<;>omega) | grind [eA,nA,sB,rH,nC,WC,SD,GA,tD,AC, →YC]
def zrW{a0}(ha:mC a0=true):Ok (Cu a0) λr=>mC r.1=true∧(r.1.Role=a0.Role∧r.1.Sn=a0.Sn∧r.1.Cur=a0.Cur)∧(r.2=true→r.1.Next.length=32):=by
 unfold Cu;refine have:=YC ha;
 .m (pA ?_) (.j0 (.m (pA ?_) (.c (λh1=> .kt (.s ⟨?_,?_,?_⟩))
  λh1=>have:=YC (nf h1); .c (λh2=> .kt (.s ⟨?_,?_,?_⟩))
  λh2=> .c (λh3=> .kt (.s ⟨?_,?_,?_⟩))
  λh3=> .c (λh4=> .s ⟨?_,?_,?_⟩)
  λh4=> .m (pA ?_) (have:=kM a0.Cur.Key [114,101,107,101,121];have:=@qM a0.Cur.Key [114,101,107,101,121]; .s ⟨?_,?_,?_⟩))))
 all_goals first | trivial | ((try simp only[NB]at *)<;>omega) | grind [eA,nA,mC,PG]
def zeQ{a0}:Ok (Bk a0) λr=>r.length≤6:=by
 unfold Bk
 refine .c (λh1=> .s ?_)
  λh1=> .m (pA ?_) (have:=NG [] a0 4; .s ?_)
 all_goals first | trivial | ((try simp only[NB]at *)<;>omega) | grind [eA,nA]
def zis{a0}(ha:mC a0=true):Ok (Fy a0) λr=>mC r.1=true∧(r.1.Role=a0.Role∧r.1.Sn=a0.Sn∧r.1.Next=a0.Next∧r.1.Cur.N=a0.Cur.N∧r.1.HasOld=a0.HasOld)∧wt r.2.1≤300∧rH r.2.1 a0.Sn:=by
 unfold Fy;refine have:=YC ha;
 .j0 (.m (pA ?_) (.c (λh1=> .kt (.m (pA ?_) (.s ⟨?_,?_,?_,?_⟩)))
  λh1=>have:=YC (nf h1); .c (λh2=> .m (pA ?_) (.s ⟨?_,?_,?_,?_⟩))
  λh2=> .b zeQ λr5 RV=> .b (rP ?_ ?_) λr6 vW=> .s ⟨?_,?_,?_,?_⟩))
 all_goals first | trivial | ((try simp only[NB]at *)<;>(try simp(disch:=omega) only[DA,JA]at *)<;>omega) | grind [eA,nA,rH]
def zh7{a0 a1}(ha:sB a0=true):Ok (Hz a0 a1) λr=>sB r.1=true∧(r.1.Id=a0.Id∧r.1.Psk=a0.Psk∧r.1.At=a0.At)∧iC r.2.2.1∧r.2.2.1.length≤4∧(r.2.1.length≤1∧wt r.2.1≤400):=by
 unfold Hz;refine have:=UD ha;
 .m (pA ?_) (.j0 (.m (pA ?_) (.c (λh1=> .kt (.s ⟨?_,?_,?_,?_,?_⟩))
  λh1=>have:=UD (nf h1); .c (λh2=> .s ⟨?_,?_,?_,?_,?_⟩)
  λh2=> .j0 (.c (λh3=> .kt (.s ⟨?_,?_,?_,?_,?_⟩))
  λh3=> .c (λh4=> .s ⟨?_,?_,?_,?_,?_⟩)
  λh4=> .b (zrW ?_) λr7 IW=> .b (zis ?_) λr8 BW=> .j0 (.c (λh5=> .kt (.s ⟨?_,?_,?_,?_,?_⟩))
  λh5=> .c (λh6=> .s ⟨?_,?_,?_,?_,?_⟩)
  λh6=> .b zaO λr11 zW=> .b (OL ?_ ?_) λr12 yW=> .s ⟨?_,?_,?_,?_,?_⟩)))))
 all_goals first | trivial | ((try simp only[NB]at *)<;>omega) | grind [eA,nA,sB,rH,nC,WC,SD,GA,tD,AC, →YC]
def zjz{a0 a1 a2}(ha:sB a0=true)(hb:a2.length≤100):Ok (Hv a0 a1 a2) λr=>sB r.1=true∧(r.1.Id=a0.Id∧r.1.Psk=a0.Psk∧r.1.At=a0.At)∧iC r.2.2.1∧r.2.2.1.length≤4∧(r.2.1.length≤1∧wt r.2.1≤400):=by
 unfold Hv;refine have:=UD ha;
 .m (pA ?_) (.j0 (.m (pA ?_) (.c (λh1=> .kt (.s ⟨?_,?_,?_,?_,?_⟩))
  λh1=>have:=UD (nf h1); .c (λh2=> .kt (.s ⟨?_,?_,?_,?_,?_⟩))
  λh2=> .c (λh3=> .s ⟨?_,?_,?_,?_,?_⟩)
  λh3=>have:=cK (nf h3); .c (λh4=> .s ⟨?_,?_,?_,?_,?_⟩)
  λh4=> .m (pA ?_) (.b zaO λr6 vW=> .m (pA ?_) (.b (ziS ?_) λr8 BW=> .s ⟨?_,?_,?_,?_,?_⟩)))))
 all_goals first | trivial | ((try simp only[NB]at *)<;>omega) | grind [eA,nA,sB,rH,nC,WC,SD,GA,tD,AC, →YC]
def zsm{a0 a1}(ha:sB a0=true):Ok (Ct a0 a1) λr=>sB r=true∧(r.Id=a0.Id∧r.Psk=a0.Psk):=by
 unfold Ct;refine have:=UD ha;
 .m (pA ?_) (.j0 (.m (pA ?_) (.c (λh1=>have:=UD h1; .j0 (.c (λh2=>have:=HF h2; .s ⟨?_,?_⟩)
  λh2=> .s ⟨?_,?_⟩))
  λh1=> .j0 (.kf (.s ⟨?_,?_⟩)))))
 all_goals first | trivial | ((try simp only[NB]at *)<;>omega) | grind [eA,nA,sB,XI]
def zbN{a0}(ha:sB a0=true):Ok (Dr a0) λr=>sB r=true∧(r.Id=a0.Id∧r.Psk=a0.Psk∧r.At=a0.At):=by
 unfold Dr;refine have:=UD ha;
 .m (pA ?_) (.s ⟨?_,?_⟩)
 all_goals first | trivial | ((try simp only[NB]at *)<;>omega) | grind [eA,nA,sB,LF,tC,KF,aG]
def zbi{a0 a1 a2}(ha:0≤a0∧a0≤9)(hb:a1=0∨a1=1)(hc:a2.length=12∨a2.length=0):Ok (Ci a0 a1 a2) λr=>nC r=true:=by
 unfold Ci;refine .m (pA ?_) (.s ?_)
 all_goals first | trivial | ((try simp only[NB]at *)<;>omega) | grind [eA,nA,nC,WC,SD,GA,tD,AC,xE]
def zjS{a0}(ha:sB a0=true):Ok (Ia a0) λr=>sB r.1=true∧(r.1.Id=a0.Id∧r.1.Psk=a0.Psk∧r.1.At=a0.At)∧iC r.2∧r.2.length≤1:=by
 unfold Ia;refine have:=UD ha;
 .m (pA ?_) (.c (λh1=> .m (pA ?_) (.s ⟨?_,?_,?_,?_⟩))
  λh1=>have:=UD (nf h1); .c (λh2=> .b (zbN ?_) λr3 tW=> .s ⟨?_,?_,?_,?_⟩)
  λh2=> .b (zbN ?_) λr4 VV=> .b (zbi ?_ ?_ ?_) λr5 RV=> .s ⟨?_,?_,?_,?_⟩)
 all_goals first | trivial | ((try simp only[NB]at *)<;>omega) | grind [eA,nA,sB, →YC,tD,AC]
def zeT{a0}(ha:wt a0≤1000000000):Ok (Bg a0) λr=>r.length≤200:=by
 unfold Bg
 refine .m (pA ?_) (.c (λh1=> .s ?_)
  λh1=>have:=sD (nf h1); .c (λh2=> .m (pA ?_) (have:=oI ([[UInt8.ofNat (IntKind.wrap .u8 a0.Kind:Int).toNat],[UInt8.ofNat (IntKind.wrap .u8 a0.Id:Int).toNat],a0.Cn,(List.replicate (20:Int).toNat (UInt8.ofNat (0:Int).toNat:UInt8):List UInt8)]:List (List UInt8)); .s ?_))
  λh2=> .c (λh3=> .m (pA ?_) (have:=NG [] a0.Tick 4; .m (pA ?_) (have:=oI ([[UInt8.ofNat (IntKind.wrap .u8 a0.Kind:Int).toNat],a0.Cn,a0.Sn,(DD [] a0.Tick 4),a0.Cookie]:List (List UInt8)); .s ?_)))
  λh3=> .c (λh4=> .m (pA ?_) (have:=NG [] a0.Tick 4; .m (pA ?_) (have:=oI ([[UInt8.ofNat (IntKind.wrap .u8 a0.Kind:Int).toNat],[UInt8.ofNat (IntKind.wrap .u8 a0.Id:Int).toNat],a0.Cn,a0.Sn,(DD [] a0.Tick 4),a0.Cookie,a0.Proof]:List (List UInt8)); .s ?_)))
  λh4=> .m (pA ?_) (have:=NG [] a0.Epoch 4; .m (pA ?_) (have:=NG [] a0.Seq 6; .m (pA ?_) (have:=oI ([[UInt8.ofNat (IntKind.wrap .u8 a0.Kind:Int).toNat],a0.Sn,(DD [] a0.Epoch 4),(DD [] a0.Seq 6),a0.Tag,a0.Body]:List (List UInt8)); .s ?_))))
 all_goals first | trivial | ((try simp only[NB,List.length_replicate]at *)<;>omega) | grind [eA,nA]
def zij{a0 a1 a2}(ha:wt a2≤1000000000):Ok (Fz a0 a1 a2) λr=>wt r≤200∧(GA a0=true→GA a1=true→OE r=true)∧(r.From=a0∧r.To=a1):=by
 unfold Fz;refine .b (zeT ?_) λr1 OV=> .s ⟨?_,?_,?_⟩
 all_goals first | trivial | ((try simp only[NB]at *)<;>omega) | grind [eA,nA,OE]
def zaL{a0 a1}(ha:wt a0≤1000000)(hb:wt a1≤1000000):Ok (Cj a0 a1) λr=>wt r≤201 *a1.length∧(GA a0.At=true→CI r a0.At∧dP r):=by
 unfold Cj;refine have hw:=FB a1;have:=zmy;
 .j (λy1:(List Ap)=>wt y1≤201 *a1.length∧(GA a0.At=true→CI y1 a0.At∧dP y1)) (λy1 mW=> .s ⟨?_,?_⟩)
  λk2 JV=> .l (λx3:(List Ap)×Int=>(0≤x3.2∧x3.2≤(a1.length:Int))∧wt x3.1≤201 *x3.2∧(GA a0.At=true→CI x3.1 a0.At∧dP x3.1)) (λx3:(List Ap)×Int=>((a1.length:Int) - x3.2).toNat) (λx3 DY k4 TV=> .c (λh1=> .bi ?_ ?_ λe5 CX uX=> .b (zij ?_) λr7 IW=> .g ?_ (TV _ ⟨?_,?_,?_⟩ ?_))
  λh1=>JV _ ⟨?_,?_⟩) ⟨?_,?_,?_⟩ ?_
 all_goals first | trivial | ((try simp only[NB]at *)<;>(try simp(disch:=omega) only[DA,JA]at *)<;>omega) | grind [eA,nA,CI,dP]
def ze1{a0}(ha:wt a0≤1000000)(hb:∀o∈a0,GA o.To=true):Ok (Dx a0) λr=>wt r≤201 *a0.length∧CI r AE:=by
 unfold Dx;refine have hw:=FB a0;have:=zmy;
 .j (λy1:(List Ap)=>wt y1≤201 *a0.length∧CI y1 AE) (λy1 mW=> .s ⟨?_,?_⟩)
  λk2 JV=> .l (λx3:(List Ap)×Int=>(0≤x3.2∧x3.2≤(a0.length:Int))∧wt x3.1≤201 *x3.2∧CI x3.1 AE) (λx3:(List Ap)×Int=>((a0.length:Int) - x3.2).toNat) (λx3 DY k4 TV=> .c (λh1=> .bi ?_ ?_ λe5 CX uX=>have:=hb _ (List.mem_of_getElem? CX); .b (zij ?_) λr7 IW=> .g ?_ (TV _ ⟨?_,?_,?_⟩ ?_))
  λh1=>JV _ ⟨?_,?_⟩) ⟨?_,?_,?_⟩ ?_
 all_goals first | trivial | ((try simp only[NB]at *)<;>(try simp(disch:=omega) only[DA,JA]at *)<;>omega) | grind [eA,nA,CI]
end Go.D
namespace Go.D
def zsk{a0 a1 a2}(ha:kD a0=true):Ok (Ic a0 a1 a2) λr=>kD r=true:=by
 unfold Ic;refine have:=KI ha;have:=aT a0 a1;
 .m (pA ?_) (.j0 (.c (λh1=> .kt (.s ?_))
  λh1=>have:=KI (nf h1); .c (λh2=> .kt (.s ?_))
  λh2=>have:=HF (nf h2); .c (λh3=> .s ?_)
  λh3=> .j0 (.c (λh4=> .h ?_ (.bg ?_ λe6 wY tX=>have hg:=zg1 ha wY;have hx:=zgx (iA .i64 e6.Got a2) 1000000;have hk:=@zms a0 _ e6 (YD (iA .i64 e6.Got a2) 1000000) e6.Sent ha wY; .h ?_ (.m wY (.s (have:=EC a0 ((nB a0 a1).toNat) (⟨e6.A,YD (iA .i64 e6.Got a2) 1000000,e6.Sent⟩:Al);?_)))))
  λh4=> .j0 (.c (λh5=> .g ?_ (.s ?_))
  λh5=> .s ?_))))
 all_goals first | trivial | ((try simp only[NB]at *)<;>(try simp(disch:=omega) only[DA,JA]at *)<;>omega) | grind [eA,nA,DA,zwR]
def yH{a0 a1}(ha:a0.length≤900000000)(hb:0≤a1∧a1≤100):Ok (Bl a0 a1) λr=>r.1.length≤a1∧r.2.length≤a0.length:=by
 unfold Bl;refine have hm:=zgx a1 (a0.length:Int);
 .h ?_ (.m (pA (have:=VD (List.drop 0 a0) ((YD a1 (a0.length:Int) - 0).toNat);have:=uF a0 0;?_)) (.h ?_ (.s (have:=VD (List.drop 0 a0) ((YD a1 (a0.length:Int) - 0).toNat);have:=VD (List.drop ((YD a1 (a0.length:Int)).toNat) a0) (((a0.length:Int) - (YD a1 (a0.length:Int))).toNat);have:=uF a0 0;have:=uF a0 ((YD a1 (a0.length:Int)).toNat);⟨?_,?_⟩))))
 all_goals first | trivial | ((try simp only[NB]at *)<;>omega) | grind [eA,nA]
def PL{a0 a1}(ha:a0.length≤900000000)(hb:0≤a1∧a1≤100):Ok (Ck a0 a1) λr=>r.2.length≤a0.length:=by
 unfold Ck;refine .b (yH ?_ ?_) λr1 OV=> .m (pA ?_) (.s ?_)
 all_goals first | trivial | ((try simp only[NB]at *)<;>omega) | grind [eA,nA]
def zih{a0}(ha:wt a0≤900000000):Ok (Dc a0) λr=>wt r.1≤200∧(r.2=true→wB r.1=true):=by
 unfold Dc
 refine .b (PL ?_ ?_) λr1 OV=> .j (λy2:(List UInt8)×Aa=>y2.1.length≤a0.length∧wt y2.2≤200) (λy2 xW=> .j0 (.m (pA ?_) (.c (λh1=> .kt (.s ⟨?_,?_⟩))
  λh1=>have:=sD (nf h1); .b (zeT ?_) λr30 z0=> .m (pA ?_) (.c (λh2=> .s ⟨?_,?_⟩)
  λh2=> .s ⟨?_,?_⟩))))
  λk3 KV=> .c (λh3=> .b (PL ?_ ?_) λr4 VV=> .b (yH ?_ ?_) λr5 RV=>KV _ ⟨?_,?_⟩)
  λh3=> .j0 (.c (λh4=> .j0 (.kt (.j (λy10:(List UInt8)×Aa=>y10.1.length≤a0.length∧wt y10.2≤0) (λy10 cX=> .b (yH ?_ ?_) λr13 eX=> .b (yH ?_ ?_) λr14 nX=> .b (PL ?_ ?_) λr15 PW=> .b (yH ?_ ?_) λr16 jX=> .j0 (.c (λh5=> .b (yH ?_ ?_) λr19 FX=>KV _ ⟨?_,?_⟩)
  λh5=>KV _ ⟨?_,?_⟩))
  λk11 PV=> .c (λh6=> .b (PL ?_ ?_) λr12 yW=>PV _ ⟨?_,?_⟩)
  λh6=>PV _ ⟨?_,?_⟩)))
  λh4=> .j0 (.c (λh7=> .j (λy10:(List UInt8)×Aa=>y10.1.length≤a0.length∧wt y10.2≤0) (λy10 cX=> .b (yH ?_ ?_) λr13 eX=> .b (yH ?_ ?_) λr14 nX=> .b (PL ?_ ?_) λr15 PW=> .b (yH ?_ ?_) λr16 jX=> .j0 (.c (λh8=> .b (yH ?_ ?_) λr19 FX=>KV _ ⟨?_,?_⟩)
  λh8=>KV _ ⟨?_,?_⟩))
  λk11 PV=> .c (λh9=> .b (PL ?_ ?_) λr12 yW=>PV _ ⟨?_,?_⟩)
  λh9=>PV _ ⟨?_,?_⟩)
  λh7=> .j0 (.c (λuW=> .b (yH ?_ ?_) λr22 fX=> .b (PL ?_ ?_) λr23 IY=> .b (PL ?_ ?_) λr24 vX=> .b (yH ?_ ?_) λr25 wX=> .b (yH ?_ ?_) λr26 JX=>KV _ ⟨?_,?_⟩)
  λuW=>KV _ ⟨?_,?_⟩)))
 all_goals first | trivial | ((try simp only[NB]at *)<;>omega) | grind [eA,nA]
def zjF{a0 a1}(ha:wt a0≤1000000):Ok (Dd a0 a1) λr=>True:=by
 unfold Dd;refine have hw:=FB a0.L;
 .j0 (.l (λx3:Int=>0≤x3∧x3≤(a0.L.length:Int)) (λx3:Int=>((a0.L.length:Int) - x3).toNat) (λx3 DY k4 TV=> .c (λh1=> .bi ?_ ?_ λe5 CX uX=> .j0 (.c (λh2=> .c (λh3=> .s ?_)
  λh3=>TV _ ?_ ?_)
  λh2=> .kf (TV _ ?_ ?_)))
  λh1=> .s ?_) ?_ ?_)
 all_goals first | trivial | ((try simp only[NB]at *)<;>(try simp(disch:=omega) only[DA,JA]at *)<;>omega) | grind [eA,nA]
def ziB{a0 a1}(ha:wt a0≤1000000):Ok (Bw a0 a1) λr=>kD a0=true→0≤nB a0 a1→∀e,a0[(nB a0 a1).toNat]?=some e→r=3 *e.Got - e.Sent:=by
 unfold Bw;refine have hw:=FB a0;have:=aT a0 a1;
 .j0 (.c (λh1=> .kt (.s ?_))
  λh1=>have:=KI (nf h1); .c (λh2=> .s ?_)
  λh2=> .bi ?_ ?_ λe3 X4 T2=>have hg:=λh=>@zg1 a0 _ e3 h X4;have:=@zhj e3.Got;have:=@JA (3 *e3.Got) e3.Sent; .bi ?_ ?_ λe4 tZ WY=>match(Option.some.inj (X4.symm.trans tZ):e3=e4)with | rfl=>(.s ?_))
 all_goals first | trivial | ((try simp only[NB]at *)<;>(try simp(disch:=omega) only[DA,JA]at *)<;>omega) | grind [eA,nA]
def zi0{a0 a1 a2}(ha:wt a0≤10000):Ok (Gb a0 a1 a2) λr=>True:=by
 unfold Gb
 refine .j0 (.b (zjF ?_) λr3 _=> .c (λh1=> .s ?_)
  λh1=> .b (ziB ?_) λr4 VV=> .s ?_)
 all_goals first | trivial | ((try simp only[NB]at *)<;>omega) | grind [eA,nA]
def zqi{a0 a1}(ha:wt a0≤1000000000):Ok (Ie a0 a1) λr=>r.length≤a0.length+12:=by
 unfold Ie
 refine .c (λh1=> .m (pA ?_) (.s ?_))
  λh1=>have:=HF (nf h1); .m (pA ?_) (have:=NG a0 a1.Host 4; .m (pA ?_) (have:=NG (DD a0 a1.Host 4) a1.Port 2; .s ?_))
 all_goals first | trivial | ((try simp only[NB]at *)<;>omega) | grind [eA,nA]
def zeW{a0 a1 a2 a3 a4}(ha:wt a2≤1000000000)(hb:wt a3≤1000000000):Ok (Et a0 a1 a2 a3 a4) λr=>r.length≤60:=by
 unfold Et
 refine .j0 (.c (λh1=> .kt (.s ?_))
  λh1=>have:=HF (nf h1); .c (λh2=> .kt (.s ?_))
  λh2=> .c (λh3=> .kt (.s ?_))
  λh3=>have:=cK (nf h3); .c (λh4=> .kt (.s ?_))
  λh4=>have:=cK (nf h4); .c (λh5=> .s ?_)
  λh5=> .b (zqi ?_) λr3 tW=> .m (pA ?_) (have:=NG [] a4 4; .m (pA ?_) (have:=oI ([r3,[UInt8.ofNat (IntKind.wrap .u8 a1:Int).toNat],a2,a3,(DD [] a4 4)]:List (List UInt8)); .s ?_)))
 all_goals first | trivial | ((try simp only[NB]at *)<;>omega) | grind [eA,nA]
def zjv{a0 a1 a2 a3 a4 a5}(ha:wt a3≤1000000000)(hb:wt a4≤1000000000):Ok (Gc a0 a1 a2 a3 a4 a5) λr=>r.length≤16:=by
 unfold Gc
 refine .b (zeW ?_ ?_) λr1 OV=> .j0 (.c (λh1=> .kt (.s ?_))
  λh1=>have:=zdk (nf h1); .c (λh2=> .s ?_)
  λh2=> .b eV λr4 VV=> .s ?_)
 all_goals first | trivial | ((try simp only[NB]at *)<;>omega) | grind [eA,nA]
def zre{a0 a1}:Ok (Cv a0 a1) λr=>True:=by
 unfold Cv
 refine .j0 (.c (λh1=> .c (λh2=> .s ?_)
  λh2=> .s ?_)
  λh1=> .s ?_)
 all_goals first | trivial | ((try simp only[NB]at *)<;>(try simp(disch:=omega) only[DA,JA]at *)<;>omega) | grind [eA,nA]
def zjE{a0 a1}(ha:wt a0≤1000000000)(hb:wt a1≤1000000000):Ok (Bo a0 a1) λr=>True:=by
 unfold Bo
 refine .c (λh1=> .s ?_)
  λh1=> .j0 (.l (λx3:Int×Int=>0≤x3.2∧x3.2≤(a0.length:Int)) (λx3:Int×Int=>((a0.length:Int) - x3.2).toNat) (λx3 DY k4 TV=> .c (λh2=> .bi ?_ ?_ λe5 CX uX=> .bi ?_ ?_ λe6 wY tX=>TV _ ?_ ?_)
  λh2=> .s ?_) ?_ ?_)
 all_goals first | trivial | ((try simp only[NB]at *)<;>(try simp(disch:=omega) only[DA,JA]at *)<;>omega) | grind [eA,nA]
def ze3{a0 a1}(ha:wt a0≤1000000000)(hb:wt a1≤1000000000):Ok (Bm a0 a1) λr=>True:=by
 unfold Bm
 refine .j0 (.c (λh1=> .b (zjE ?_ ?_) λr3 _=> .s ?_)
  λh1=> .s ?_)
 all_goals first | trivial | ((try simp only[NB]at *)<;>omega) | grind [eA,nA]
def zrm{a0 a1 a2 a3}(ha:wt a3≤1000):Ok (If a0 a1 a2 a3) λr=>r=0→a3.Kind=3∧wB a3=true:=by
 unfold If
 refine .j0 (.c (λh1=> .kt (.s ?_))
  λh1=>have:=zdk (nf h1); .c (λh2=> .kt (.s ?_))
  λh2=> .c (λh3=> .kt (.s ?_))
  λh3=>have:=HF (nf h3); .c (λh4=> .kt (.s ?_))
  λh4=> .m (pA ?_) (.c (λh5=> .s ?_)
  λh5=>have:=sD (nf h5); .b zre λr4 _=> .c (λh6=> .s ?_)
  λh6=> .b (zjv ?_ ?_) λr5 RV=> .b (ze3 ?_ ?_) λr6 _=> .c (λh7=> .s ?_)
  λh7=> .s ?_))
 all_goals first | trivial | ((try simp only[NB]at *)<;>omega) | grind [eA,nA]
def ziG{a0 a1}:Ok (Bx a0 a1) λr=>r=ZC a0 a1:=by
 unfold Bx;refine have:=qL a0 a1;
 .s ?_
 all_goals first | trivial | ((try simp only[NB]at *)<;>omega) | grind [eA,nA]
def zeP{a0}:Ok (Bh a0) λr=>r.length=32∨r.length=0:=by
 unfold Bh
 refine .c (λh1=> .s ?_)
  λh1=>have:=oL (nf h1); .b ziG λr2 fW=>have:=zmq [UInt8.ofNat (114:Int).toNat,UInt8.ofNat (111:Int).toNat,UInt8.ofNat (97:Int).toNat,UInt8.ofNat (109:Int).toNat] a0; .m (pA ?_) (have:=kM r2 [102,105,110,105,115,104];have:=@qM r2 [102,105,110,105,115,104]; .s ?_)
 all_goals first | trivial | ((try simp only[NB]at *)<;>omega) | grind [eA,nA]
def zeO{a0 a1 a2 a3 a4}(ha:wt a1≤1000000000)(hb:wt a2≤1000000000)(hc:wt a4≤1000000000):Ok (De a0 a1 a2 a3 a4) λr=>r.length≤60:=by
 unfold De
 refine .j0 (.c (λh1=> .kt (.s ?_))
  λh1=> .c (λh2=> .kt (.s ?_))
  λh2=>have:=cK (nf h2); .c (λh3=> .kt (.s ?_))
  λh3=>have:=cK (nf h3); .c (λh4=> .kt (.s ?_))
  λh4=> .c (λh5=> .s ?_)
  λh5=> .m (pA ?_) (have:=NG [] a3 4; .m (pA ?_) (have:=oI [([UInt8.ofNat (102:Int).toNat,UInt8.ofNat (IntKind.wrap .u8 a0:Int).toNat]:List UInt8),a1,a2,(DD [] a3 4),a4]; .s ?_)))
 all_goals first | trivial | ((try simp only[NB]at *)<;>omega) | grind [eA,nA]
def zjn{a0 a1 a2 a3 a4 a5}(ha:wt a2≤1000000000)(hb:wt a3≤1000000000)(hc:wt a5≤1000000000):Ok (Ds a0 a1 a2 a3 a4 a5) λr=>r.length=0∨r.length=16:=by
 unfold Ds
 refine .b zeP λr1 OV=> .b (zeO ?_ ?_ ?_) λr2 fW=>have:=@EH r1 r2; .j0 (.c (λh1=> .kt (.s ?_))
  λh1=> .c (λh2=> .s ?_)
  λh2=> .b eV λr5 RV=> .s ?_)
 all_goals first | trivial | ((try simp only[NB]at *)<;>omega) | grind [eA,nA]
def zpY{a0 a1}(ha:wt a1≤1000):Ok (Ig a0 a1) λr=>True:=by
 unfold Ig
 refine .j0 (.c (λh1=> .m (pA ?_) (.c (λh2=>have:=sD h2; .b (zjn ?_ ?_ ?_) λr4 VV=> .b (ze3 ?_ ?_) λr5 _=> .s ?_)
  λh2=> .s ?_))
  λh1=> .s ?_)
 all_goals first | trivial | ((try simp only[NB]at *)<;>omega) | grind [eA,nA]
def zpP{a0}:Ok (Cf a0) λr=>r=⟨a0,[]⟩:=by
 unfold Cf;refine .s ?_
 all_goals first | trivial | ((try simp only[NB]at *)<;>omega) | grind [eA,nA]
def zpX{a0 a1 a2}(ha:GC a0=true)(hb:a1.length=12)(hc:a2.length=12):Ok (Ih a0 a1 a2) λr=>r.length=32:=by
 unfold Ih;refine have:=oL ha;have hm:=@EH (List.flatten [a1,a2]) a0;
 .j0 (.c (λh1=> .kt (.s ?_))
  λh1=>have:=oL (nf h1); .c (λh2=> .kt (.s ?_))
  λh2=>have:=cK (nf h2); .c (λh3=> .s ?_)
  λh3=>have:=cK (nf h3); .m (pA ?_) (have:=oI [a1,a2]; .b ziG λr4 VV=> .s ?_))
 all_goals first | trivial | ((try simp only[NB]at *)<;>omega) | grind [eA,nA]
def zpy{a0}:Ok (Cw a0) λr=>a0.length=32→r.length=32:=by
 unfold Cw
 refine .c (λh1=> .s ?_)
  λh1=> .m (pA ?_) (have:=kM a0 [101,112,111,99,104];have:=@qM a0 [101,112,111,99,104]; .s ?_)
 all_goals first | trivial | ((try simp only[NB]at *)<;>omega) | grind [eA,nA]
def zrr{a0 a1}(ha:a0.length≤100):Ok (Ii a0 a1) λr=>a1=0→r=a0:=by
 unfold Ii
 refine .c (λh1=> .s ?_)
  λh1=> .m (pA ?_) (.j (λy2:(List UInt8)=>y2.length≤200∧(a1=0→y2=a0)) (λy2 xW=> .s ?_)
  λk3 KV=> .l (λx4:(List UInt8)×Int=>(0≤x4.2∧x4.2≤64)∧x4.1.length≤200∧(a1=0→x4.1=a0)) (λx4:(List UInt8)×Int=>(64 - x4.2).toNat) (λx4 P5 k5 gW=> .c (λh2=> .m (pA ?_) (have:=kM x4.1 [114,101,107,101,121];have:=@qM x4.1 [114,101,107,101,121];gW _ ⟨?_,?_,?_⟩ ?_))
  λh2=>KV _ ⟨?_,?_⟩) ⟨?_,?_,?_⟩ ?_)
 all_goals first | trivial | ((try simp only[NB]at *)<;>(try simp(disch:=omega) only[DA,JA]at *)<;>omega) | grind [eA,nA]
def zif{a0 a1 a2 a3}(ha:GC a0=true)(hb:a1.length=12)(hc:a2.length=12):Ok (Gd a0 a1 a2 a3) λr=>a3=0→r.length=32:=by
 unfold Gd
 refine .b (zpX ?_ ?_ ?_) λr1 OV=> .b zpy λr2 fW=> .c (λh1=> .s ?_)
  λh1=> .b (zrr ?_) λr3 tW=> .s ?_
 all_goals first | trivial | ((try simp only[NB]at *)<;>omega) | grind [eA,nA]
def zfi{a0 a1}(ha:0≤a0∧a0≤4294967295)(hb:a1.length=32):Ok (Df a0 a1) λr=>aD r=true∧(r.N=a0∧r.Key=a1∧r.Seq=0):=by
 unfold Df
 refine .j0 (.c (λh1=> .kt (.s ⟨?_,?_⟩))
  λh1=> .c (λh2=> .s ⟨?_,?_⟩)
  λh2=> .m (pA ?_) (.b zqA λr4 VV=> .s ⟨?_,?_⟩))
 all_goals first | trivial | ((try simp only[NB]at *)<;>omega) | grind [eA,nA,aD]
def ziw{a0 a1 a2}(ha:a0=0∨a0=1)(hb:a1.length=12)(hc:a2.length=32):Ok (Ge a0 a1 a2) λr=>mC r=true∧(r.Role=a0∧r.Sn=a1∧r.Cur.N=0∧r.HasOld=false∧r.Next=[]):=by
 unfold Ge
 refine .j0 (.c (λh1=> .kt (.s ⟨?_,?_⟩))
  λh1=> .c (λh2=> .kt (.s ⟨?_,?_⟩))
  λh2=>have:=cK (nf h2); .c (λh3=> .s ⟨?_,?_⟩)
  λh3=> .m (pA ?_) (.b (zfi ?_ ?_) λr4 VV=> .s ⟨?_,?_⟩))
 all_goals first | trivial | ((try simp only[NB]at *)<;>omega) | grind [eA,nA,mC,PG,aG,PA]
def zpZ{a0 a1 a2 a3}(ha:GC a0=true)(hb:eA a1 0 1000000=true)(hc:GA a2=true)(hd:wB a3=true)(he:a3.Kind=3):Ok (Eu a0 a1 a2 a3) λr=>vC r=true∧(r.Id=a3.Id∧r.Sn=a3.Sn∧r.Cn=a3.Cn∧r.Dead=false):=by
 unfold Eu;refine have:=sD hd;have:=zml hd he;have:=@zve a2 hc;
 .j0 (.c (λh1=> .kt (.s ⟨?_,?_⟩))
  λh1=>have:=oL (nf h1); .c (λh2=> .kt (.s ⟨?_,?_⟩))
  λh2=> .c (λh3=> .kt (.s ⟨?_,?_⟩))
  λh3=>have:=HF (nf h3); .c (λh4=> .kt (.s ⟨?_,?_⟩))
  λh4=> .m (pA ?_) (.c (λh5=> .s ⟨?_,?_⟩)
  λh5=>have:=sD (nf h5); .m (pA ?_) (.m (pA ?_) (.b zpP λr6 vW=> .b (zif ?_ ?_ ?_) λr7 IW=> .b (ziw ?_ ?_ ?_) λr8 BW=> .s ⟨?_,?_⟩))))
 all_goals first | trivial | ((try simp only[NB]at *)<;>omega) | grind [eA,nA,vC]
def ziK{a0 a1}(ha:TC a0=true)(hb:wt a1≤400):Ok (Bi a0 a1) λr=>TC r.1=true∧(∀e∈r.1.L,e∈a0.L∨e=a1)∧(r.2=0→0≤PE r.1 a1.Sn):=by
 unfold Bi;refine have:=jL ha;have:=@zub a0.Cap a0.L a1;
 .m (pA ?_) (.j0 (.m (pA ?_) (.c (λh1=> .kt (.s ⟨?_,?_,?_⟩))
  λh1=>have:=jL (nf h1); .m (pA ?_) (.c (λh2=> .kt (.s ⟨?_,?_,?_⟩))
  λh2=>have:=eL (nf h2); .c (λh3=> .s ⟨?_,?_,?_⟩)
  λh3=> .m (pA ?_) (have:=gO a0 a1.Sn; .c (λh4=> .s ⟨?_,?_,?_⟩)
  λh4=> .j0 (.m (pA ?_) (.c (λh5=> .kt (.s ⟨?_,?_,?_⟩))
  λh5=> .c (λh6=> .s ⟨?_,?_,?_⟩)
  λh6=> .m (pA ?_) (.g ?_ (.s ⟨?_,?_,?_⟩)))))))))
 all_goals first | trivial | ((try simp only[NB]at *)<;>omega) | grind [eA,nA,zwt]
def zbv{a0 a1 a2}(ha:a0.length=32∨a0.length=0)(hb:a1.length=12∨a1.length=0)(hc:a2.length≤100):Ok (Dt a0 a1 a2) λr=>nC r=true:=by
 unfold Dt;refine .m (pA ?_) (.m (pA ?_) (.m (pA ?_) (.s ?_)))
 all_goals first | trivial | ((try simp only[NB]at *)<;>omega) | grind [eA,nA,nC,WC,SD,GA,tD,AC,xE]
def zj0{a0}(ha:mC a0=true):Ok (Gf a0) λr=>mC r.1=true∧(r.1.Role=a0.Role∧r.1.Sn=a0.Sn∧r.1.Next=a0.Next∧r.1.Cur.N=a0.Cur.N∧r.1.HasOld=a0.HasOld)∧wt r.2.1≤300∧rH r.2.1 a0.Sn:=by
 unfold Gf;refine have:=YC ha;
 .j0 (.m (pA ?_) (.c (λh1=> .kt (.m (pA ?_) (.s ⟨?_,?_,?_,?_⟩)))
  λh1=>have:=YC (nf h1); .c (λh2=> .m (pA ?_) (.s ⟨?_,?_,?_,?_⟩))
  λh2=> .b zeQ λr5 RV=> .b (rP ?_ ?_) λr6 vW=> .s ⟨?_,?_,?_,?_⟩))
 all_goals first | trivial | ((try simp only[NB]at *)<;>omega) | grind [eA,nA,rH]
def ziD{a0}(ha:vC a0=true):Ok (Ev a0) λr=>XE a0 r.1∧IE r.2.1∧(r.2.1.length≤1∧wt r.2.1≤400)∧iC r.2.2∧r.2.2.length≤1:=by
 unfold Ev;refine have:=lF ha;have hl:=@UM a0 ha;have:=lO ha;
 .m (pA ?_) (.j0 (.m (pA ?_) (.c (λh1=> .kt (.s ⟨?_,?_,?_,?_,?_⟩))
  λh1=>have:=eL (nf h1); .c (λh2=> .kt (.s ⟨?_,?_,?_,?_,?_⟩))
  λh2=> .c (λh3=> .s ⟨?_,?_,?_,?_,?_⟩)
  λh3=> .b (zj0 ?_) λr5 RV=> .c (λh4=> .s ⟨?_,?_,?_,?_,?_⟩)
  λh4=> .b (OL ?_ ?_) λr6 vW=> .s ⟨?_,?_,?_,?_,?_⟩)))
 all_goals first | trivial | ((try simp only[NB]at *)<;>omega) | grind [eA,nA,LM,qO,fH,tD,AC]
def zaQ{a0 a1 a2}(ha:TC a0=true)(hb:wt a2≤400):Ok (Bs a0 a1 a2) λr=>TC r.1=true∧(∀e∈r.1.L,e∈a0.L∨e=a2)∧r.1.L.length=a0.L.length:=by
 unfold Bs;refine have:=jL ha;
 .m (pA ?_) (.j0 (.m (pA ?_) (.c (λh1=> .kt (.s ⟨?_,?_,?_⟩))
  λh1=>have:=jL (nf h1); .c (λh2=> .kt (.s ⟨?_,?_,?_⟩))
  λh2=> .c (λh3=> .s ⟨?_,?_,?_⟩)
  λh3=> .m (pA ?_) (.h ?_ (.bg ?_ λe6 wY tX=> .m (pA (have:=EC a0.L a1.toNat a2;?_)) (.c (λh4=> .m (pA ?_) (.s ⟨?_,?_,?_⟩))
  λh4=>have:=jL (nf h4); .s (have:=EC a0.L a1.toNat a2;⟨?_,?_,?_⟩)))))))
 all_goals first | trivial | ((try simp only[NB]at *)<;>omega) | grind [eA,nA,zf9]
def zpF{a0 a1 a2 a3}(ha:MB a0=true)(hb:eA a1 0 1000000=true)(hc:GA a2=true)(hd:wB a3=true):Ok (Kx a0 a1 a2 a3) λr=>MB r.1=true∧r.1.Psks=a0.Psks∧IE r.2.1∧(r.2.1.length≤2∧wt r.2.1≤1000)∧iC r.2.2∧r.2.2.length≤8:=by
 unfold Kx;refine have:=EF ha;have hs:=qF.1 ha;have:=hs.jar;have:=hs.dice;have:=sD hd;
 .j0 (.c (λh1=> .kt (.s ⟨?_,?_,?_,?_,?_,?_⟩))
  λh1=> .b (zi0 ?_) λr3 _=> .c (λh2=> .kt (.s ⟨?_,?_,?_,?_,?_,?_⟩))
  λh2=> .c (λh3=> .s ⟨?_,?_,?_,?_,?_,?_⟩)
  λh3=> .m (pA ?_) (have:=rL a0.D; .b (zjv ?_ ?_) λr5 RV=> .m (pA ?_) (.m (pA ?_) (.b (zeW ?_ ?_) λr8 BW=> .b (zfy ?_ ?_) λr9 SW=> .m (pA ?_) (have:=zcN (SC a0.D).2;have:=@zcm (SC a0.D).2; .s ⟨?_,?_,?_,?_,?_,?_⟩)))))
 all_goals first | trivial | ((try simp only[NB]at *)<;>omega) | grind [eA,nA,MB,QE,qO,fH,LE,nC,WC,SD,GA,tD,AC,xE]
def zoW{a0 a1 a2 a3}(ha:MB a0=true)(hb:eA a1 0 1000000=true)(hc:GA a2=true)(hd:wB a3=true):Ok (Kz a0 a1 a2 a3) λr=>MB r.1=true∧r.1.Psks=a0.Psks∧IE r.2.1∧(r.2.1.length≤2∧wt r.2.1≤1000)∧iC r.2.2∧r.2.2.length≤8:=by
 unfold Kz;refine have:=EF ha;have hs:=qF.1 ha;have:=hs.jar;have:=hs.tab;have:=sD hd;have hf3:=@zml a3 hd;have hw:=FB a0.T.L;have hp:=FB a0.Psks;
 .j0 (.b (zrm ?_) λr3 tW=> .c (λh1=> .kt (.s ⟨?_,?_,?_,?_,?_,?_⟩))
  λh1=> .c (λh2=> .kt (.s ⟨?_,?_,?_,?_,?_,?_⟩))
  λh2=> .bm ?_ ?_ λe4 tZ WY=>have:=hs.psk e4 tZ; .b (zpY ?_) λr5 _=> .c (λh3=> .s ⟨?_,?_,?_,?_,?_,?_⟩)
  λh3=> .m (pA ?_) (have:=gO a0.T a3.Sn; .j (λy7:(List Ad)×Ac×Ac=>iC y7.1∧y7.1.length≤3∧MB y7.2.2=true∧y7.2.2.Psks=a0.Psks∧0≤PE y7.2.2.T a3.Sn) (λy7 xY=>have⟨hn7,hm7,hs7,hp7,hf7⟩:=xY;have:=EF hs7;have S:=qF.1 hs7;have:=S.tab;have:=BE hn7; .m (pA ?_) (have:=gO y7.2.2.T a3.Sn; .bm ?_ ?_ λe22 xZ M1=>have H0:=(aF.1 S.tab).el _ xZ;have:=lF H0; .j0 (.c (λh4=> .kt (.s ⟨?_,?_,?_,?_,?_,?_⟩))
  λh4=> .c (λh5=> .kt (.s ⟨?_,?_,?_,?_,?_,?_⟩))
  λh5=> .m (pA ?_) (.c (λh6=> .s ⟨?_,?_,?_,?_,?_,?_⟩)
  λh6=> .b (ziD ?_) λr26 JX=>have:=lF JX.1.1;have:=BE JX.2.2.2.1; .b (zaQ ?_ ?_) λr27 sY=>have V3:=pJ (d:=⟨y7.2.2.Psks,y7.2.2.J,y7.2.2.D,r27.1,y7.2.2.Cr⟩) hs7 rfl S.jar S.dice sY.1 S.cr (λe he=>(sY.2.1 e he).elim (S.id e) λh=>by rw[h,JX.1.2.1];exact S.id _ xZ);have YW:=xE.2 ⟨hn7,JX.2.2.2.1⟩; .g ?_ (.s ⟨?_,?_,?_,?_,?_,?_⟩)))))
  λk8 sW=> .c (λh7=> .bm ?_ ?_ λe9 MZ CY=>have hpk:=hs.psk e9 MZ; .b (zpZ ?_ ?_ ?_ ?_ ?_) λr10 pW=>have:=lF pW.1;have hch:=YC (UM pW.1 pW.2.2.2.2).1; .b (ziK ?_ ?_) λr11 zW=>have V3:=pJ (d:=⟨a0.Psks,a0.J,a0.D,r11.1,a0.Cr⟩) ha rfl hs.jar hs.dice zW.1 hs.cr (λe he=>(zW.2.1 e he).elim (hs.id e) λh=>by rw[h,pW.2.1];simp at h2;omega); .c (λh8=> .s ⟨?_,?_,?_,?_,?_,?_⟩)
  λh8=> .b (zeW ?_ ?_) λr12 yW=> .b (zbv ?_ ?_ ?_) λr13 eX=> .b zeP λr14 nX=> .b (zeO ?_ ?_ ?_) λr15 PW=> .b (zbv ?_ ?_ ?_) λr16 jX=>have YW:iC [r13,r16,(⟨4,a3.Id,0,a3.Cn,a3.Sn,0,0,[],r10.C.Cur.Key,a2,a1⟩:Ad)]:=tD.2 ⟨eX,tD.2 ⟨jX,tD.2 ⟨by grind [nC,WC,SD,eA],AC⟩⟩⟩;have:=BE YW; .m (pA ?_) (.m (pA ?_) (.m (pA ?_) (.g ?_ (sW _ ⟨?_,?_,?_,?_,?_⟩)))))
  λh7=>sW _ ⟨?_,?_,?_,?_,?_⟩))
 all_goals first | trivial | assumption | exact fH | exact AC | exact YW | ((try simp only[NB]at *)<;>(try simp(disch:=omega) only[DA,JA]at *)<;>omega) | grind [eA,nA,qO,fH,zgW,nC,WC,SD,GA,tD,AC,xE]
end Go.D
namespace Go.D
def zqM{a0 a1 a2}(ha:wt a0≤1000000000)(hb:wt a2≤1000000000):Ok (Ij a0 a1 a2) λr=>r.1.length≤a2.Body.length:=by
 unfold Ij
 refine .b (mP ?_) λr1 OV=> .j0 (.c (λh1=> .kt (.s ?_))
  λh1=> .c (λh2=> .kt (.s ?_))
  λh2=> .b eV λr4 VV=> .b (ze3 ?_ ?_) λr5 _=> .c (λh3=> .s ?_)
  λh3=> .b (zfc ?_) λr6 vW=> .b (zfH ?_ ?_) λr7 IW=> .s ?_)
 all_goals first | trivial | ((try simp only[NB]at *)<;>omega) | grind [eA,nA]
def zrc{a0 a1 a2}(ha:aD a0=true)(hb:wt a2≤1000):Ok (Ew a0 a1 a2) λr=>aD r.1=true∧(r.1.N=a0.N∧r.1.Key=a0.Key∧r.1.Seq=a0.Seq)∧r.2.1.length≤a2.Body.length:=by
 unfold Ew;refine have:=epF ha;
 .m (pA ?_) (.j0 (.c (λh1=> .kt (.s ⟨?_,?_,?_⟩))
  λh1=>have:=epF (nf h1); .b (mP ?_) λr4 VV=> .c (λh2=> .kt (.s ⟨?_,?_,?_⟩))
  λh2=> .c (λh3=> .s ⟨?_,?_,?_⟩)
  λh3=> .b (zfe ?_) λr5 RV=> .c (λh4=> .s ⟨?_,?_,?_⟩)
  λh4=> .b (zqM ?_ ?_) λr6 vW=> .c (λh5=> .s ⟨?_,?_,?_⟩)
  λh5=> .s ⟨?_,?_,?_⟩))
 all_goals first | trivial | ((try simp only[NB]at *)<;>omega) | grind [eA,nA,aD]
def zin{a0 a1 a2}(ha:mC a0=true)(hb:wt a2≤1000):Ok (Dh a0 a1 a2) λr=>mC r.1=true∧(r.1.Role=a0.Role∧r.1.Sn=a0.Sn)∧(r.1.Next=a0.Next∧r.1.Cur.N=a0.Cur.N∨r.1.Next=[]∧r.1.Cur.N≠a0.Cur.N)∧r.2.1.length≤a2.Body.length∧(r.2.2=0→wB a2=true∧jC a2.Kind=true∧eA a1 0 1000000=true):=by
 unfold Dh;refine have:=YC ha;have i1:=@DA a0.Cur.N 1;have i2:=@JA a0.Cur.N 1;have i3:=@DA a1 5;
 .m (pA ?_) (.j0 (.m (pA ?_) (.c (λh1=> .kt (.s ⟨?_,?_,?_,?_,?_⟩))
  λh1=>have:=YC (nf h1); .c (λh2=> .kt (.s ⟨?_,?_,?_,?_,?_⟩))
  λh2=> .c (λh3=> .kt (.s ⟨?_,?_,?_,?_,?_⟩))
  λh3=> .m (pA ?_) (.c (λh4=> .s ⟨?_,?_,?_,?_,?_⟩)
  λh4=>have:=sD (nf h4); .j (λy6:Bool=>y6=true→a0.HasOld=true∧a2.Epoch=a0.Old.N) (λy6 yX=> .j (λy8:Bool=>y8=true→a0.Next.length>0∧a2.Epoch=iA .i64 a0.Cur.N 1) (λy8 O5=> .j (λy10:Bool=>y10=false→(a2.Epoch=a0.Cur.N∨y6=true∨y8=true)) (λy10 cX=> .c (λh5=> .s ⟨?_,?_,?_,?_,?_⟩)
  λh5=> .jt (λy13=> .c (λh6=> .s ⟨?_,?_,?_,?_,?_⟩)
  λh6=> .j (λy15:Ax=>aD y15=true∧(y6=true∧y15=a0.Old∨y6=false∧y15=a0.Cur)) (λy15 m0=> .j (λy17:Ax=>aD y17=true∧(y8=true∧y17.N=a0.Cur.N+1∨y8=false∧(y6=true∧y17=a0.Old∨y6=false∧y17=a0.Cur))) (λy17 eZ=> .b (zrc ?_ ?_) λr20 FY=>have i4:=@JA r20.1.N 1; .c (λh7=> .s ⟨?_,?_,?_,?_,?_⟩)
  λh7=> .j (λy21:Ak=>mC y21=true∧(y21.Role=a0.Role∧y21.Sn=a0.Sn)∧(y21.Next=a0.Next∧y21.Cur.N=a0.Cur.N∨y21.Next=[]∧y21.Cur.N≠a0.Cur.N)) (λy21 z1=> .s ⟨?_,?_,?_,?_,?_⟩)
  λk22 UW=> .c (λh8=> .j0 (.c (λh9=> .j0 (.c (λuW=>UW _ ⟨?_,?_,?_⟩)
  λuW=>UW _ ⟨?_,?_,?_⟩))
  λh9=> .j0 (.kf (UW _ ⟨?_,?_,?_⟩))))
  λh8=> .j0 (.c (λHW=>UW _ ⟨?_,?_,?_⟩)
  λHW=>UW _ ⟨?_,?_,?_⟩))
  λk18 FW=> .c (λWW=> .b (zfi ?_ ?_) λr19 FX=>FW _ ⟨?_,?_⟩)
  λWW=>FW _ ⟨?_,?_⟩)
  λk16 RW=> .c (λoX=>RW _ ⟨?_,?_⟩)
  λoX=>RW _ ⟨?_,?_⟩)
  λk14 SV=> .c (λJY=> .c (λKY=>SV _)
  λKY=>SV _)
  λJY=>SV _)
  λk11 PV=> .b (zjE ?_ ?_) λr12 _=> .c (λPY=>PV _ ?_)
  λPY=> .c (λyZ=> .c (λN1=>PV _ ?_)
  λN1=>PV _ ?_)
  λyZ=>PV _ ?_)
  λk9 bX=> .c (λOZ=>bX _ ?_)
  λOZ=>bX _ ?_)
  λk7 UV=> .c (λPZ=>UV _ ?_)
  λPZ=>UV _ ?_))))
 all_goals first | trivial | ((try simp only[NB]at *)<;>(try simp(disch:=omega) only[DA,JA]at *)<;>omega) | grind [eA,nA,mC,PG]
def ziR{a0 a1}(ha:mC a0=true):Ok (Gg a0 a1) λr=>r.1.length=0∨r.1.length=32:=by
 unfold Gg;refine have:=YC ha;
 .m (pA ?_) (.c (λh1=> .s ?_)
  λh1=>have:=YC (nf h1); .j (λy2:Bool=>y2=true→a0.HasOld=true) (λy2 xW=> .c (λh2=> .m (pA ?_) (.s ?_))
  λh2=> .c (λh3=> .m (pA ?_) (.s ?_))
  λh3=> .j0 (.c (λh4=> .c (λh5=> .m (pA ?_) (.s ?_))
  λh5=> .s ?_)
  λh4=> .kf (.s ?_)))
  λk3 KV=> .c (λh6=>KV _ ?_)
  λh6=>KV _ ?_)
 all_goals first | trivial | ((try simp only[NB]at *)<;>(try simp(disch:=omega) only[DA,JA]at *)<;>omega) | grind [eA,nA,mC,aD,PG]
def zrd{a0 a1 a2 a3}(ha:sC a0=true)(hb:wt a3≤1000):Ok (Gh a0 a1 a2 a3) λr=>sC r.1=true:=by
 unfold Gh;refine have:=eI ha;have hw:=FB a0.Cands;
 .m (pA ?_) (.m (pA ?_) (have:=zlh a0 a2; .j0 (.c (λh1=> .kt (.s ?_))
  λh1=>have:=eI (nf h1); .c (λh2=> .kt (.s ?_))
  λh2=> .c (λh3=> .kt (.s ?_))
  λh3=> .bm ?_ ?_ λe5 CX uX=> .m (pA ?_) (.c (λh4=> .kt (.s ?_))
  λh4=> .bm ?_ ?_ λe7 YZ EY=> .c (λh5=> .s ?_)
  λh5=> .h ?_ (.h ?_ (.g (have:=VD a0.Cands (((CE a0 a2) - 0).toNat);have:=VD (List.drop ((iA .i64 (CE a0 a2) 1).toNat) a0.Cands) (((a0.Cands.length:Int) - (iA .i64 (CE a0 a2) 1)).toNat);have:=uF a0.Cands ((iA .i64 (CE a0 a2) 1).toNat);?_) (.s (have:=VD a0.Cands (((CE a0 a2) - 0).toNat);have:=VD (List.drop ((iA .i64 (CE a0 a2) 1).toNat) a0.Cands) (((a0.Cands.length:Int) - (iA .i64 (CE a0 a2) 1)).toNat);have:=uF a0.Cands ((iA .i64 (CE a0 a2) 1).toNat);?_))))))))
 all_goals first | trivial | exact zs9 ha (by simp at h3;omega) | ((try simp only[NB]at *)<;>(try simp(disch:=omega) only[DA,JA]at *)<;>omega) | grind [eA,nA]
def zsv{a0}(ha:mC a0=true):Ok (Ik a0) λr=>mC r.1=true∧(r.1.Role=a0.Role∧r.1.Sn=a0.Sn):=by
 unfold Ik;refine have:=YC ha;
 .m (pA ?_) (.j0 (.m (pA ?_) (.c (λh1=> .kt (.s ⟨?_,?_⟩))
  λh1=>have:=YC (nf h1); .c (λh2=> .kt (.s ⟨?_,?_⟩))
  λh2=> .c (λh3=> .s ⟨?_,?_⟩)
  λh3=> .m (pA ?_) (have:=kM a0.Cur.Key [114,101,107,101,121];have:=@qM a0.Cur.Key [114,101,107,101,121]; .b (zfi ?_ ?_) λr6 vW=> .s ⟨?_,?_⟩))))
 all_goals first | trivial | ((try simp only[NB]at *)<;>(try simp(disch:=omega) only[DA,JA]at *)<;>omega) | grind [eA,nA,mC,PG,DA,JA]
def zpj{a0 a1 a2}(ha:mC a0=true)(hb:wt a2≤1000):Ok (Il a0 a1 a2) λr=>mC r.1=true∧(r.1.Role=a0.Role∧r.1.Sn=a0.Sn):=by
 unfold Il;refine have:=YC ha;
 .m (pA ?_) (.j0 (.m (pA ?_) (.c (λh1=> .kt (.s ⟨?_,?_⟩))
  λh1=>have:=YC (nf h1); .c (λh2=> .kt (.s ⟨?_,?_⟩))
  λh2=> .c (λh3=> .kt (.s ⟨?_,?_⟩))
  λh3=> .b zeQ λr5 RV=> .m (pA ?_) (.c (λh4=> .s ⟨?_,?_⟩)
  λh4=> .c (λh5=> .s ⟨?_,?_⟩)
  λh5=> .b (zsv ?_) λr7 IW=> .j0 (.c (λh6=> .kt (.s ⟨?_,?_⟩))
  λh6=> .c (λh7=> .s ⟨?_,?_⟩)
  λh7=> .s ⟨?_,?_⟩)))))
 all_goals first | trivial | ((try simp only[NB]at *)<;>(try simp(disch:=omega) only[DA,JA]at *)<;>omega) | grind [eA,nA]
def zpl{a0 a1 a2}(ha:vC a0=true)(hb:a0.Dead=false)(hc:wt a2≤1000):Ok (La a0 a1 a2) λr=>XE a0 r.1∧IE r.2.1∧(r.2.1.length≤1∧wt r.2.1≤400)∧iC r.2.2∧r.2.2.length≤2∧r.1.Dead=false:=by
 unfold La;refine have:=lF ha;have hl:=UM ha hb;have:=lO ha;
 .b (zpj ?_ ?_) λr1 OV=>have:=YC OV.1; .c (λh1=> .s ⟨?_,?_,?_,?_,?_,?_⟩)
  λh1=> .j (λy2:(List Ad)=>iC y2∧y2.length≤1) (λy2 xW=>have:=BE xW.1; .b (zj0 ?_) λr7 IW=> .c (λh2=> .s ⟨?_,?_,?_,?_,?_,?_⟩)
  λh2=> .b (OL ?_ ?_) λr8 BW=>have YW:=xE.2 ⟨xW.1,tD.2 ⟨BW,AC⟩⟩;have:=US BW; .g ?_ (.s ⟨?_,?_,?_,?_,?_,?_⟩))
  λk3 KV=> .c (λh3=> .m (pA ?_) (.m (pA ?_) (.g ?_ (KV _ ⟨?_,?_⟩))))
  λh3=>KV _ ⟨?_,?_⟩
 all_goals first | trivial | exact LM ha (by grind) (by grind) (by grind) hl.2.2.2.1 hl.2.2.2.2.2 hb | ((try simp only[NB]at *)<;>omega) | grind [eA,nA,LM,qO,fH,nC,WC,SD,GA,tD,AC,xE]
def zh6{a0 a1}(ha:sC a0=true):Ok (Du a0 a1) λr=>sC r=true∧r.At=a0.At:=by
 have hL:=GB;have hf:=eI ha;unfold Du;refine .m (pA (by omega)) (.j (λy:Aj=>y.At=a0.At∧y.Cands.Sublist a0.Cands) (λy hy=> .s ⟨?_,hy.1⟩) λk hk=> .l (λx:Int×Aj=>∃i:Nat,x.1=(i:Int)∧i≤a0.Cands.length∧x.2.At=a0.At∧x.2.Cands.Sublist (a0.Cands.take i)) (λx:Int×Aj=>((a0.Cands.length:Int) - x.1).toNat) (λx hx k' iX=>?_) ⟨0,rfl,Nat.zero_le _,rfl, .slnil⟩ (by simp only;omega))
 ·have:=zuO ha hy.2;rwa [←hy.1]at this
 ·obtain⟨i,h1,h2,h3,h4⟩:=hx;have hs:=h4.trans (List.take_sublist _ _);refine .c (λh=>?_) λ_=>hk _ ⟨h3,hs⟩;simp only[B]at h;have W3:iA .i64 x.1 1=((i+1:Nat):Int):=by rw[h1,DA (by omega) (by omega)];omega
  refine .h (by simp only[B];omega) ?_;rw[show x.1.toNat=i by omega];refine .bg (by omega) λe he hew=>?_;have ht:=take_succ he;have hl:=hs.length_le;refine .j (λy:Aj=>y.At=a0.At∧y.Cands.Sublist (a0.Cands.take (i+1))) (λy hy=>iX _ ⟨i+1,W3,by omega,hy.1,hy.2⟩ (by simp only[W3];omega)) λk2 JV=> .c (λ_=> .g ?_ (JV _ ⟨h3,?_⟩)) λ_=>JV _ ⟨h3,?_⟩
  ·have:wt x.2.Cands≤39 *3:=by
    have:=yM 38 x.2.Cands λc hc=>by have:=zai (hs.subset hc);simp only[N]at hf this⊢;omega
    simp only[N]at hf;omega
   simp only[N]at hf hew⊢;omega
  ·rw[ht];exact h4.append (.refl _)
  ·rw[ht];exact h4.trans (List.sublist_append_left _ _)
def zrg{a0 a1 a2 a3}(ha:sC a0=true)(hb:a3.length≤100):Ok (Gi a0 a1 a2 a3) λr=>sC r.1=true∧r.1.At=a0.At∧(r.2=true→GA a2=true):=by
 unfold Gi;refine have:=eI ha;
 .j0 (.c (λh1=> .kt (.m (pA ?_) (.s ⟨?_,?_,?_⟩)))
  λh1=>have:=eI (nf h1); .c (λh2=> .kt (.m (pA ?_) (.s ⟨?_,?_,?_⟩)))
  λh2=> .c (λh3=> .kt (.m (pA ?_) (.s ⟨?_,?_,?_⟩)))
  λh3=>have:=HF (nf h3); .c (λh4=> .kt (.m (pA ?_) (.s ⟨?_,?_,?_⟩)))
  λh4=>have:=cK (nf h4); .c (λh5=> .m (pA ?_) (.s ⟨?_,?_,?_⟩))
  λh5=> .b (zh6 ?_) λr5 RV=>have:=eI RV.1;have hap:=@zvd r5 a2 a3 a1 RV.1; .j0 (.m (pA ?_) (have:=zlh r5 a2; .c (λh6=> .kt (.m (pA ?_) (.s ⟨?_,?_,?_⟩)))
  λh6=> .c (λh7=> .m (pA ?_) (.s ⟨?_,?_,?_⟩))
  λh7=> .m (pA ?_) (.g ?_ (.s ⟨?_,?_,?_⟩)))))
 all_goals first | trivial | ((try simp only[NB]at *)<;>(try simp(disch:=omega) only[DA,JA]at *)<;>omega) | grind [eA,nA,zcl]
end Go.D

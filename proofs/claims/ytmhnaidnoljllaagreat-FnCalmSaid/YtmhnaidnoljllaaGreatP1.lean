/-
 The program's machine comes to an end; what is right stays right.
-/
import Derived.Test.YtmhnaidnoljllaaGreatE1
set_option linter.all false
namespace Go.D
def EV{a0}:Ok (Bc a0) λr=>NC r=true∧(eA a0 0 1000000=true→r.On=true):=by
 unfold Bc
 refine .c (λh1=> .s ⟨?_,?_⟩)
  λh1=> .s ⟨?_,?_⟩
 all_goals first | trivial | ((try simp only[NB]at *)<;>(try simp(disch:=omega) only[DA,SA]at *)<;>omega) | grind [eA,mA,NC,vF,DA]
def zhp{a0}(ha:a0.Cn.length≤100):Ok (Fs a0) λr=>wt r≤a0.Cn.length:=by
 unfold Fs;refine .m (oA ?_) (.s ?_)
 all_goals first | trivial | ((try simp only[NB]at *)<;>omega) | grind [eA,mA]
def zdR{a0 a1 a2 a3}(ha:wt a1≤1000000000):Ok (Eh a0 a1 a2 a3) λr=>r.length≤25∧(0<r.length→a1.length=12):=by
 unfold Eh
 refine .j0 (.c (λh1=> .kt (.s ⟨?_,?_⟩))
  λh1=> .c (λh2=> .kt (.s ⟨?_,?_⟩))
  λh2=>have:=RJ (nf h2); .c (λh3=> .kt (.s ⟨?_,?_⟩))
  λh3=> .c (λh4=> .s ⟨?_,?_⟩)
  λh4=> .m (oA ?_) (have:=CG [] a2 4; .m (oA ?_) (have:=CG [] a3 6; .m (oA ?_) (have:=gI ([[UInt8.ofNat (IntKind.wrap .u8 a0:Int).toNat],a1,(rD [] a2 4),(rD [] a3 6)]:List (List UInt8)); .s ⟨?_,?_⟩))))
 all_goals first | trivial | ((try simp only[NB]at *)<;>omega) | grind [eA,mA]
def zes{a0 a1 a2}(ha:wt a1≤1000000000)(hb:wt a2≤1000000000):Ok (Ei a0 a1 a2) λr=>r.length≤200∧r.length≤a2.length:=by
 unfold Ei
 refine .j0 (.c (λh1=> .kt (.s ?_))
  λh1=> .c (λh2=> .kt (.s ?_))
  λh2=> .c (λh3=> .s ?_)
  λh3=> .b (zoq ?_) λr3 pW=> .j (λy4:(List UInt8)=>y4.length≤200∧y4.length≤a2.length) (λy4 mZ=> .s ?_)
  λk5 sW=> .l (λx6:(List UInt8)×Int=>0≤x6.2∧x6.2≤(r3.length:Int)∧(x6.1.length:Int)=x6.2) (λx6:(List UInt8)×Int=>((r3.length:Int) - x6.2).toNat) (λx6 hx6 k7 wW=> .c (λh4=> .h ?_ (.bg ?_ λe8 W2 Q1=> .bi ?_ ?_ λe9 nZ bY=> .g ?_ (wW _ ?_ ?_)))
  λh4=>sW _ ?_) ?_ ?_)
 all_goals first | trivial | ((try simp only[NB]at *)<;>(try simp(disch:=omega) only[DA,SA]at *)<;>omega) | grind [eA,mA]
def fP{a0 a1}(ha:wt a1≤1000000000):Ok (Cg a0 a1) λr=>r.length≤100:=by
 unfold Cg
 refine .j0 (.c (λh1=> .kt (.s ?_))
  λh1=> .c (λh2=> .kt (.s ?_))
  λh2=> .m (oA ?_) (.c (λh3=> .s ?_)
  λh3=>have:=jD (nf h3); .b (zdR ?_) λr4 SV=> .m (oA ?_) (have:=gI ([[UInt8.ofNat (116:Int).toNat],r4,[UInt8.ofNat (IntKind.wrap .u8 a1.Kind:Int).toNat],a1.Body]:List (List UInt8)); .s ?_)))
 all_goals first | trivial | ((try simp only[NB]at *)<;>omega) | grind [eA,mA]
def hU{a0 a1}:Ok (Ca a0 a1) λr=>r.length≤16∧(r.length=16∨(IC a0 a1).length=0):=by
 unfold Ca;refine have hm:=XK a0 a1;have F3:=zk7 a0 a1;
 .c (λh1=> .s ⟨?_,?_⟩)
  λh1=> .h ?_ (.m (oA ?_) (.s ⟨?_,?_⟩))
 all_goals first | trivial | ((try simp only[NB]at *)<;>omega) | grind [eA,mA]
def zd9{a0 a1 a2 a3 a4 a5 a6}(ha:wt a0≤1000000000)(hb:wt a2≤1000000000)(hc:wt a6≤1000000000):Ok (Dp a0 a1 a2 a3 a4 a5 a6) λr=>wt r.1≤300∧(r.1.Sn=[]∨r.1.Sn=a2)∧(r.1.Epoch=0∨r.1.Epoch=a3)∧(r.1.Seq=0∨r.1.Seq=a4):=by
 unfold Dp
 refine .m (oA ?_) (.m (oA ?_) (.j0 (.c (λh1=> .kt (.s ⟨?_,?_,?_,?_⟩))
  λh1=> .c (λh2=> .kt (.s ⟨?_,?_,?_,?_⟩))
  λh2=> .c (λh3=> .kt (.s ⟨?_,?_,?_,?_⟩))
  λh3=> .m (oA ?_) (.c (λh4=> .s ⟨?_,?_,?_,?_⟩)
  λh4=>have:=jD (nf h4); .b (zdR ?_) λr7 FW=> .b (zes ?_ ?_) λr8 QW=> .b (fP ?_) λr9 FX=> .b hU λr10 uW=> .s ⟨?_,?_,?_,?_⟩))))
 all_goals first | trivial | ((try simp only[NB,List.length_replicate]at *)<;>omega) | grind [eA,mA]
def zoF{a0 a1 a2 a3 a4}(ha:JC a0=true)(hb:wt a2≤1000000000)(hc:wt a4≤1000000000):Ok (Ej a0 a1 a2 a3 a4) λr=>JC r.1=true∧(r.1.N=a0.N∧r.1.Key=a0.Key)∧wt r.2.1≤300∧gH r.2.1 a2:=by
 unfold Ej;refine have:=epF ha;
 .m (oA ?_) (.c (λh1=> .s ⟨?_,?_,?_,?_⟩)
  λh1=>have:=epF (nf h1); .b (zd9 ?_ ?_ ?_) λr2 DW=> .c (λh2=> .s ⟨?_,?_,?_,?_⟩)
  λh2=> .j0 (.c (λh3=> .c (λh4=> .s ⟨?_,?_,?_,?_⟩)
  λh4=> .c (λh5=> .s ⟨?_,?_,?_,?_⟩)
  λh5=> .b (zd9 ?_ ?_ ?_) λr5 RV=> .s ⟨?_,?_,?_,?_⟩)
  λh3=> .kf (.c (λh6=> .s ⟨?_,?_,?_,?_⟩)
  λh6=> .b (zd9 ?_ ?_ ?_) λr5 RV=> .s ⟨?_,?_,?_,?_⟩)))
 all_goals first | trivial | ((try simp only[NB]at *)<;>(try simp(disch:=omega) only[DA,SA]at *)<;>omega) | grind [eA,mA,gH,JC,DA]
def cP{a0 a1 a2}(ha:XB a0=true)(hb:wt a2≤1000000000):Ok (Bs a0 a1 a2) λr=>XB r.1=true∧(r.1.Role=a0.Role∧r.1.Sn=a0.Sn∧r.1.Next=a0.Next∧r.1.Cur.N=a0.Cur.N∧r.1.HasOld=a0.HasOld)∧wt r.2.1≤300∧gH r.2.1 a0.Sn:=by
 unfold Bs;refine have:=GC ha;
 .m (oA ?_) (.m (oA ?_) (.c (λh1=> .s ⟨?_,?_,?_,?_⟩)
  λh1=>have:=GC (nf h1); .b (zoF ?_ ?_ ?_) λr3 pW=> .s ⟨?_,?_,?_,?_⟩))
 all_goals first | trivial | ((try simp only[NB]at *)<;>omega) | grind [eA,mA,XB,GG,gH]
def zd7{a0 a1}(ha:a0.length=32∨a0.length=0)(hb:a1.length≤100):Ok (Ek a0 a1) λr=>nC r=true:=by
 unfold Ek;refine .m (oA ?_) (.m (oA ?_) (.s ?_))
 all_goals first | trivial | ((try simp only[NB]at *)<;>omega) | grind [eA,mA,nC,LC,tE,GA,kD,qC,jE]
def HL{a0 a1}(ha:XB a0=true)(hb:wt a1≤1000):Ok (Bt a0 a1) λr=>nC r=true:=by
 unfold Bt;refine have:=GC ha;
 .b (fP ?_) λr1 QV=> .b (zd7 ?_ ?_) λr2 DW=> .s ?_
 all_goals first | trivial | ((try simp only[NB]at *)<;>omega) | grind [eA,mA]
def zdw{a0 a1 a2}(ha:dB a0=true)(hb:a2.length≤300000):Ok (Fu a0 a1 a2) λr=>dB r.1=true∧(r.1.Id=a0.Id∧r.1.Psk=a0.Psk∧r.1.At=a0.At)∧TB r.2.2.1∧r.2.2.1.length≤4∧(r.2.1.length≤1∧wt r.2.1≤400):=by
 unfold Fu;refine have:=ID ha;
 .m (oA ?_) (.j0 (.m (oA ?_) (.c (λh1=> .kt (.s ⟨?_,?_,?_,?_,?_⟩))
  λh1=>have:=ID (nf h1); .c (λh2=> .kt (.s ⟨?_,?_,?_,?_,?_⟩))
  λh2=> .c (λh3=> .s ⟨?_,?_,?_,?_,?_⟩)
  λh3=> .c (λh4=> .s ⟨?_,?_,?_,?_,?_⟩)
  λh4=> .b (cP ?_ ?_) λr5 RV=> .c (λh5=> .s ⟨?_,?_,?_,?_,?_⟩)
  λh5=> .m (oA ?_) (.m (oA ?_) (.b (HL ?_ ?_) λr8 QW=> .s ⟨?_,?_,?_,?_,?_⟩)))))
 all_goals first | trivial | ((try simp only[NB]at *)<;>omega) | grind [eA,mA,dB,gH,nC,LC,tE,GA,kD,qC, →GC]
def zpB{a0}(ha:XB a0=true):Ok (Dl a0) λr=>XB r.1=true∧(r.1.Role=a0.Role∧r.1.Sn=a0.Sn∧r.1.Cur=a0.Cur)∧(r.2=true→r.1.Next.length=32):=by
 unfold Dl;refine have:=GC ha;
 .m (oA ?_) (.j0 (.m (oA ?_) (.c (λh1=> .kt (.s ⟨?_,?_,?_⟩))
  λh1=>have:=GC (nf h1); .c (λh2=> .kt (.s ⟨?_,?_,?_⟩))
  λh2=> .c (λh3=> .kt (.s ⟨?_,?_,?_⟩))
  λh3=> .c (λh4=> .s ⟨?_,?_,?_⟩)
  λh4=> .m (oA ?_) (have:=gM a0.Cur.Key [114,101,107,101,121];have:=@hM a0.Cur.Key [114,101,107,101,121]; .s ⟨?_,?_,?_⟩))))
 all_goals first | trivial | ((try simp only[NB]at *)<;>omega) | grind [eA,mA,XB,GG]
def zdA{a0}:Ok (Bj a0) λr=>r.length≤6:=by
 unfold Bj
 refine .c (λh1=> .s ?_)
  λh1=> .m (oA ?_) (have:=CG [] a0 4; .s ?_)
 all_goals first | trivial | ((try simp only[NB]at *)<;>omega) | grind [eA,mA]
def zg4{a0}(ha:XB a0=true):Ok (Fv a0) λr=>XB r.1=true∧(r.1.Role=a0.Role∧r.1.Sn=a0.Sn∧r.1.Next=a0.Next∧r.1.Cur.N=a0.Cur.N∧r.1.HasOld=a0.HasOld)∧wt r.2.1≤300∧gH r.2.1 a0.Sn:=by
 unfold Fv;refine have:=GC ha;
 .j0 (.m (oA ?_) (.c (λh1=> .kt (.m (oA ?_) (.s ⟨?_,?_,?_,?_⟩)))
  λh1=>have:=GC (nf h1); .c (λh2=> .m (oA ?_) (.s ⟨?_,?_,?_,?_⟩))
  λh2=> .b zdA λr5 RV=> .b (cP ?_ ?_) λr6 vW=> .s ⟨?_,?_,?_,?_⟩))
 all_goals first | trivial | ((try simp only[NB]at *)<;>(try simp(disch:=omega) only[DA,SA]at *)<;>omega) | grind [eA,mA,gH]
def zdv{a0 a1}(ha:dB a0=true):Ok (Fw a0 a1) λr=>dB r.1=true∧(r.1.Id=a0.Id∧r.1.Psk=a0.Psk∧r.1.At=a0.At)∧TB r.2.2.1∧r.2.2.1.length≤4∧(r.2.1.length≤1∧wt r.2.1≤400):=by
 unfold Fw;refine have:=ID ha;
 .m (oA ?_) (.j0 (.m (oA ?_) (.c (λh1=> .kt (.s ⟨?_,?_,?_,?_,?_⟩))
  λh1=>have:=ID (nf h1); .c (λh2=> .s ⟨?_,?_,?_,?_,?_⟩)
  λh2=> .j0 (.c (λh3=> .kt (.s ⟨?_,?_,?_,?_,?_⟩))
  λh3=> .c (λh4=> .s ⟨?_,?_,?_,?_,?_⟩)
  λh4=> .b (zpB ?_) λr7 FW=> .b (zg4 ?_) λr8 QW=> .j0 (.c (λh5=> .kt (.s ⟨?_,?_,?_,?_,?_⟩))
  λh5=> .c (λh6=> .s ⟨?_,?_,?_,?_,?_⟩)
  λh6=> .b EV λr11 YW=> .b (HL ?_ ?_) λr12 QX=> .s ⟨?_,?_,?_,?_,?_⟩)))))
 all_goals first | trivial | ((try simp only[NB]at *)<;>omega) | grind [eA,mA,dB,gH,nC,LC,tE,GA,kD,qC, →GC]
def zed{a0 a1 a2}(ha:dB a0=true)(hb:a2.length≤100):Ok (Ft a0 a1 a2) λr=>dB r.1=true∧(r.1.Id=a0.Id∧r.1.Psk=a0.Psk∧r.1.At=a0.At)∧TB r.2.2.1∧r.2.2.1.length≤4∧(r.2.1.length≤1∧wt r.2.1≤400):=by
 unfold Ft;refine have:=ID ha;
 .m (oA ?_) (.j0 (.m (oA ?_) (.c (λh1=> .kt (.s ⟨?_,?_,?_,?_,?_⟩))
  λh1=>have:=ID (nf h1); .c (λh2=> .kt (.s ⟨?_,?_,?_,?_,?_⟩))
  λh2=> .c (λh3=> .s ⟨?_,?_,?_,?_,?_⟩)
  λh3=>have:=RJ (nf h3); .c (λh4=> .s ⟨?_,?_,?_,?_,?_⟩)
  λh4=> .m (oA ?_) (.b EV λr6 vW=> .m (oA ?_) (.b (zhp ?_) λr8 QW=> .s ⟨?_,?_,?_,?_,?_⟩)))))
 all_goals first | trivial | ((try simp only[NB]at *)<;>omega) | grind [eA,mA,dB,gH,nC,LC,tE,GA,kD,qC, →GC]
def zpL{a0 a1}(ha:dB a0=true):Ok (Bp a0 a1) λr=>dB r=true∧(r.Id=a0.Id∧r.Psk=a0.Psk):=by
 unfold Bp;refine have:=ID ha;
 .m (oA ?_) (.j0 (.m (oA ?_) (.c (λh1=>have:=ID h1; .j0 (.c (λh2=>have:=rF h2; .s ⟨?_,?_⟩)
  λh2=> .s ⟨?_,?_⟩))
  λh1=> .j0 (.kf (.s ⟨?_,?_⟩)))))
 all_goals first | trivial | ((try simp only[NB]at *)<;>omega) | grind [eA,mA,dB,MI]
def zaP{a0}(ha:dB a0=true):Ok (Cb a0) λr=>dB r=true∧(r.Id=a0.Id∧r.Psk=a0.Psk∧r.At=a0.At):=by
 unfold Cb;refine have:=ID ha;
 .m (oA ?_) (.s ⟨?_,?_⟩)
 all_goals first | trivial | ((try simp only[NB]at *)<;>omega) | grind [eA,mA,dB,wF,iC,vF,JF]
def zaA{a0 a1 a2}(ha:0≤a0∧a0≤9)(hb:a1=0∨a1=1)(hc:a2.length=12∨a2.length=0):Ok (Ch a0 a1 a2) λr=>nC r=true:=by
 unfold Ch;refine .m (oA ?_) (.s ?_)
 all_goals first | trivial | ((try simp only[NB]at *)<;>omega) | grind [eA,mA,nC,LC,tE,GA,kD,qC,jE]
def zea{a0}(ha:dB a0=true):Ok (Fx a0) λr=>dB r.1=true∧(r.1.Id=a0.Id∧r.1.Psk=a0.Psk∧r.1.At=a0.At)∧TB r.2∧r.2.length≤1:=by
 unfold Fx;refine have:=ID ha;
 .m (oA ?_) (.c (λh1=> .m (oA ?_) (.s ⟨?_,?_,?_,?_⟩))
  λh1=>have:=ID (nf h1); .c (λh2=> .b (zaP ?_) λr3 pW=> .s ⟨?_,?_,?_,?_⟩)
  λh2=> .b (zaP ?_) λr4 SV=> .b (zaA ?_ ?_ ?_) λr5 RV=> .s ⟨?_,?_,?_,?_⟩)
 all_goals first | trivial | ((try simp only[NB]at *)<;>omega) | grind [eA,mA,dB, →GC,kD,qC]
def zdE{a0}(ha:wt a0≤1000000000):Ok (Be a0) λr=>r.length≤200:=by
 unfold Be
 refine .m (oA ?_) (.c (λh1=> .s ?_)
  λh1=>have:=jD (nf h1); .c (λh2=> .m (oA ?_) (have:=gI ([[UInt8.ofNat (IntKind.wrap .u8 a0.Kind:Int).toNat],[UInt8.ofNat (IntKind.wrap .u8 a0.Id:Int).toNat],a0.Cn,(List.replicate (20:Int).toNat (UInt8.ofNat (0:Int).toNat:UInt8):List UInt8)]:List (List UInt8)); .s ?_))
  λh2=> .c (λh3=> .m (oA ?_) (have:=CG [] a0.Tick 4; .m (oA ?_) (have:=gI ([[UInt8.ofNat (IntKind.wrap .u8 a0.Kind:Int).toNat],a0.Cn,a0.Sn,(rD [] a0.Tick 4),a0.Cookie]:List (List UInt8)); .s ?_)))
  λh3=> .c (λh4=> .m (oA ?_) (have:=CG [] a0.Tick 4; .m (oA ?_) (have:=gI ([[UInt8.ofNat (IntKind.wrap .u8 a0.Kind:Int).toNat],[UInt8.ofNat (IntKind.wrap .u8 a0.Id:Int).toNat],a0.Cn,a0.Sn,(rD [] a0.Tick 4),a0.Cookie,a0.Proof]:List (List UInt8)); .s ?_)))
  λh4=> .m (oA ?_) (have:=CG [] a0.Epoch 4; .m (oA ?_) (have:=CG [] a0.Seq 6; .m (oA ?_) (have:=gI ([[UInt8.ofNat (IntKind.wrap .u8 a0.Kind:Int).toNat],a0.Sn,(rD [] a0.Epoch 4),(rD [] a0.Seq 6),a0.Tag,a0.Body]:List (List UInt8)); .s ?_))))
 all_goals first | trivial | ((try simp only[NB,List.length_replicate]at *)<;>omega) | grind [eA,mA]
def zg0{a0 a1 a2}(ha:wt a2≤1000000000):Ok (Fy a0 a1 a2) λr=>wt r≤200∧(GA a0=true→GA a1=true→lE r=true)∧(r.From=a0∧r.To=a1):=by
 unfold Fy;refine .b (zdE ?_) λr1 QV=> .s ⟨?_,?_,?_⟩
 all_goals first | trivial | ((try simp only[NB]at *)<;>omega) | grind [eA,mA,lE]
def CV{a0 a1}(ha:wt a0≤1000000)(hb:wt a1≤1000000):Ok (Ci a0 a1) λr=>wt r≤201 *a1.length∧(GA a0.At=true→sI r a0.At∧SO r):=by
 unfold Ci;refine have hw:=QB a1;have:=zkT;
 .j (λy1:(List Ak)=>wt y1≤201 *a1.length∧(GA a0.At=true→sI y1 a0.At∧SO y1)) (λy1 ZV=> .s ⟨?_,?_⟩)
  λk2 IV=> .l (λx3:(List Ak)×Int=>(0≤x3.2∧x3.2≤(a1.length:Int))∧wt x3.1≤201 *x3.2∧(GA a0.At=true→sI x3.1 a0.At∧SO x3.1)) (λx3:(List Ak)×Int=>((a1.length:Int) - x3.2).toNat) (λx3 WX k4 iW=> .c (λh1=> .bi ?_ ?_ λe5 gX ZW=> .b (zg0 ?_) λr7 FW=> .g ?_ (iW _ ⟨?_,?_,?_⟩ ?_))
  λh1=>IV _ ⟨?_,?_⟩) ⟨?_,?_,?_⟩ ?_
 all_goals first | trivial | ((try simp only[NB]at *)<;>(try simp(disch:=omega) only[DA,SA]at *)<;>omega) | grind [eA,mA,sI,SO]
def zdL{a0}(ha:wt a0≤1000000)(hb:∀o∈a0,GA o.To=true):Ok (Dv a0) λr=>wt r≤201 *a0.length∧sI r LD:=by
 unfold Dv;refine have hw:=QB a0;have:=zkT;
 .j (λy1:(List Ak)=>wt y1≤201 *a0.length∧sI y1 LD) (λy1 ZV=> .s ⟨?_,?_⟩)
  λk2 IV=> .l (λx3:(List Ak)×Int=>(0≤x3.2∧x3.2≤(a0.length:Int))∧wt x3.1≤201 *x3.2∧sI x3.1 LD) (λx3:(List Ak)×Int=>((a0.length:Int) - x3.2).toNat) (λx3 WX k4 iW=> .c (λh1=> .bi ?_ ?_ λe5 gX ZW=>have:=hb _ (List.mem_of_getElem? gX); .b (zg0 ?_) λr7 FW=> .g ?_ (iW _ ⟨?_,?_,?_⟩ ?_))
  λh1=>IV _ ⟨?_,?_⟩) ⟨?_,?_,?_⟩ ?_
 all_goals first | trivial | ((try simp only[NB]at *)<;>(try simp(disch:=omega) only[DA,SA]at *)<;>omega) | grind [eA,mA,sI]
end Go.D
namespace Go.D
def zpQ{a0 a1 a2}(ha:UC a0=true):Ok (Ie a0 a1 a2) λr=>UC r=true:=by
 unfold Ie;refine have:=BI ha;have:=IS a0 a1;
 .m (oA ?_) (.j0 (.c (λh1=> .kt (.s ?_))
  λh1=>have:=BI (nf h1); .c (λh2=> .kt (.s ?_))
  λh2=>have:=rF (nf h2); .c (λh3=> .s ?_)
  λh3=> .j0 (.c (λh4=> .h ?_ (.bg ?_ λe6 dY kX=>have hg:=zfS ha dY;have hx:=zfG (gA .i64 e6.Got a2) 1000000;have hk:=@zk5 a0 _ e6 (sD (gA .i64 e6.Got a2) 1000000) e6.Sent ha dY; .h ?_ (.m dY (.s (have:=wD a0 ((fB a0 a1).toNat) (⟨e6.A,sD (gA .i64 e6.Got a2) 1000000,e6.Sent⟩:Al);?_)))))
  λh4=> .j0 (.c (λh5=> .g ?_ (.s ?_))
  λh5=> .s ?_))))
 all_goals first | trivial | ((try simp only[NB]at *)<;>(try simp(disch:=omega) only[DA,SA]at *)<;>omega) | grind [eA,mA,DA,zuV]
def mH{a0 a1}(ha:a0.length≤900000000)(hb:0≤a1∧a1≤100):Ok (Bi a0 a1) λr=>r.1.length≤a1∧r.2.length≤a0.length:=by
 unfold Bi;refine have hm:=zfG a1 (a0.length:Int);
 .h ?_ (.m (oA (have:=TD (List.drop 0 a0) ((sD a1 (a0.length:Int) - 0).toNat);have:=cF a0 0;?_)) (.h ?_ (.s (have:=TD (List.drop 0 a0) ((sD a1 (a0.length:Int) - 0).toNat);have:=TD (List.drop ((sD a1 (a0.length:Int)).toNat) a0) (((a0.length:Int) - (sD a1 (a0.length:Int))).toNat);have:=cF a0 0;have:=cF a0 ((sD a1 (a0.length:Int)).toNat);⟨?_,?_⟩))))
 all_goals first | trivial | ((try simp only[NB]at *)<;>omega) | grind [eA,mA]
def EL{a0 a1}(ha:a0.length≤900000000)(hb:0≤a1∧a1≤100):Ok (Cj a0 a1) λr=>r.2.length≤a0.length:=by
 unfold Cj;refine .b (mH ?_ ?_) λr1 QV=> .m (oA ?_) (.s ?_)
 all_goals first | trivial | ((try simp only[NB]at *)<;>omega) | grind [eA,mA]
def zdI{a0}(ha:wt a0≤900000000):Ok (Da a0) λr=>wt r.1≤200∧(r.2=true→oB r.1=true):=by
 unfold Da
 refine .b (EL ?_ ?_) λr1 QV=> .j (λy2:(List UInt8)×Ab=>y2.1.length≤a0.length∧wt y2.2≤200) (λy2 rW=> .j0 (.m (oA ?_) (.c (λh1=> .kt (.s ⟨?_,?_⟩))
  λh1=>have:=jD (nf h1); .b (zdE ?_) λr30 B4=> .m (oA ?_) (.c (λh2=> .s ⟨?_,?_⟩)
  λh2=> .s ⟨?_,?_⟩))))
  λk3 JV=> .c (λh3=> .b (EL ?_ ?_) λr4 SV=> .b (mH ?_ ?_) λr5 RV=>JV _ ⟨?_,?_⟩)
  λh3=> .j0 (.c (λh4=> .j0 (.kt (.j (λy10:(List UInt8)×Ab=>y10.1.length≤a0.length∧wt y10.2≤0) (λy10 SX=> .b (mH ?_ ?_) λr13 CZ=> .b (mH ?_ ?_) λr14 UY=> .b (EL ?_ ?_) λr15 cY=> .b (mH ?_ ?_) λr16 TX=> .j0 (.c (λh5=> .b (mH ?_ ?_) λr19 BZ=>JV _ ⟨?_,?_⟩)
  λh5=>JV _ ⟨?_,?_⟩))
  λk11 fW=> .c (λh6=> .b (EL ?_ ?_) λr12 QX=>fW _ ⟨?_,?_⟩)
  λh6=>fW _ ⟨?_,?_⟩)))
  λh4=> .j0 (.c (λh7=> .j (λy10:(List UInt8)×Ab=>y10.1.length≤a0.length∧wt y10.2≤0) (λy10 SX=> .b (mH ?_ ?_) λr13 CZ=> .b (mH ?_ ?_) λr14 UY=> .b (EL ?_ ?_) λr15 cY=> .b (mH ?_ ?_) λr16 TX=> .j0 (.c (λh8=> .b (mH ?_ ?_) λr19 BZ=>JV _ ⟨?_,?_⟩)
  λh8=>JV _ ⟨?_,?_⟩))
  λk11 fW=> .c (λh9=> .b (EL ?_ ?_) λr12 QX=>fW _ ⟨?_,?_⟩)
  λh9=>fW _ ⟨?_,?_⟩)
  λh7=> .j0 (.c (λmW=> .b (mH ?_ ?_) λr22 mX=> .b (EL ?_ ?_) λr23 V1=> .b (EL ?_ ?_) λr24 RX=> .b (mH ?_ ?_) λr25 D0=> .b (mH ?_ ?_) λr26 yY=>JV _ ⟨?_,?_⟩)
  λmW=>JV _ ⟨?_,?_⟩)))
 all_goals first | trivial | ((try simp only[NB]at *)<;>omega) | grind [eA,mA]
def zh9{a0 a1}(ha:wt a0≤1000000):Ok (Db a0 a1) λr=>True:=by
 unfold Db;refine have hw:=QB a0.L;
 .j0 (.l (λx3:Int=>0≤x3∧x3≤(a0.L.length:Int)) (λx3:Int=>((a0.L.length:Int) - x3).toNat) (λx3 WX k4 iW=> .c (λh1=> .bi ?_ ?_ λe5 gX ZW=> .j0 (.c (λh2=> .c (λh3=> .s ?_)
  λh3=>iW _ ?_ ?_)
  λh2=> .kf (iW _ ?_ ?_)))
  λh1=> .s ?_) ?_ ?_)
 all_goals first | trivial | ((try simp only[NB]at *)<;>(try simp(disch:=omega) only[DA,SA]at *)<;>omega) | grind [eA,mA]
def zhh{a0 a1}(ha:wt a0≤1000000):Ok (By a0 a1) λr=>UC a0=true→0≤fB a0 a1→∀e,a0[(fB a0 a1).toNat]?=some e→r=3 *e.Got - e.Sent:=by
 unfold By;refine have hw:=QB a0;have:=IS a0 a1;
 .j0 (.c (λh1=> .kt (.s ?_))
  λh1=>have:=BI (nf h1); .c (λh2=> .s ?_)
  λh2=> .bi ?_ ?_ λe3 v4 R1=>have hg:=λh=>@zfS a0 _ e3 h v4;have:=@zf6 e3.Got;have:=@SA (3 *e3.Got) e3.Sent; .bi ?_ ?_ λe4 TY vY=>match(Option.some.inj (v4.symm.trans TY):e3=e4)with | rfl=>(.s ?_))
 all_goals first | trivial | ((try simp only[NB]at *)<;>(try simp(disch:=omega) only[DA,SA]at *)<;>omega) | grind [eA,mA]
def zhr{a0 a1 a2}(ha:wt a0≤10000):Ok (Fz a0 a1 a2) λr=>True:=by
 unfold Fz
 refine .j0 (.b (zh9 ?_) λr3 _=> .c (λh1=> .s ?_)
  λh1=> .b (zhh ?_) λr4 SV=> .s ?_)
 all_goals first | trivial | ((try simp only[NB]at *)<;>omega) | grind [eA,mA]
def zoa{a0 a1}(ha:wt a0≤1000000000):Ok (If a0 a1) λr=>r.length≤a0.length+12:=by
 unfold If
 refine .c (λh1=> .m (oA ?_) (.s ?_))
  λh1=>have:=rF (nf h1); .m (oA ?_) (have:=CG a0 a1.Host 4; .m (oA ?_) (have:=CG (rD a0 a1.Host 4) a1.Port 2; .s ?_))
 all_goals first | trivial | ((try simp only[NB]at *)<;>omega) | grind [eA,mA]
def zdH{a0 a1 a2 a3 a4}(ha:wt a2≤1000000000)(hb:wt a3≤1000000000):Ok (Em a0 a1 a2 a3 a4) λr=>r.length≤60:=by
 unfold Em
 refine .j0 (.c (λh1=> .kt (.s ?_))
  λh1=>have:=rF (nf h1); .c (λh2=> .kt (.s ?_))
  λh2=> .c (λh3=> .kt (.s ?_))
  λh3=>have:=RJ (nf h3); .c (λh4=> .kt (.s ?_))
  λh4=>have:=RJ (nf h4); .c (λh5=> .s ?_)
  λh5=> .b (zoa ?_) λr3 pW=> .m (oA ?_) (have:=CG [] a4 4; .m (oA ?_) (have:=gI ([r3,[UInt8.ofNat (IntKind.wrap .u8 a1:Int).toNat],a2,a3,(rD [] a4 4)]:List (List UInt8)); .s ?_)))
 all_goals first | trivial | ((try simp only[NB]at *)<;>omega) | grind [eA,mA]
def zia{a0 a1 a2 a3 a4 a5}(ha:wt a3≤1000000000)(hb:wt a4≤1000000000):Ok (Ga a0 a1 a2 a3 a4 a5) λr=>r.length≤16:=by
 unfold Ga
 refine .b (zdH ?_ ?_) λr1 QV=> .j0 (.c (λh1=> .kt (.s ?_))
  λh1=>have:=zcl (nf h1); .c (λh2=> .s ?_)
  λh2=> .b hU λr4 SV=> .s ?_)
 all_goals first | trivial | ((try simp only[NB]at *)<;>omega) | grind [eA,mA]
def zph{a0 a1}:Ok (Cs a0 a1) λr=>True:=by
 unfold Cs
 refine .j0 (.c (λh1=> .c (λh2=> .s ?_)
  λh2=> .s ?_)
  λh1=> .s ?_)
 all_goals first | trivial | ((try simp only[NB]at *)<;>(try simp(disch:=omega) only[DA,SA]at *)<;>omega) | grind [eA,mA]
def zh8{a0 a1}(ha:wt a0≤1000000000)(hb:wt a1≤1000000000):Ok (Bq a0 a1) λr=>True:=by
 unfold Bq
 refine .c (λh1=> .s ?_)
  λh1=> .j0 (.l (λx3:Int×Int=>0≤x3.2∧x3.2≤(a0.length:Int)) (λx3:Int×Int=>((a0.length:Int) - x3.2).toNat) (λx3 WX k4 iW=> .c (λh2=> .bi ?_ ?_ λe5 gX ZW=> .bi ?_ ?_ λe6 dY kX=>iW _ ?_ ?_)
  λh2=> .s ?_) ?_ ?_)
 all_goals first | trivial | ((try simp only[NB]at *)<;>(try simp(disch:=omega) only[DA,SA]at *)<;>omega) | grind [eA,mA]
def zdN{a0 a1}(ha:wt a0≤1000000000)(hb:wt a1≤1000000000):Ok (Bk a0 a1) λr=>True:=by
 unfold Bk
 refine .j0 (.c (λh1=> .b (zh8 ?_ ?_) λr3 _=> .s ?_)
  λh1=> .s ?_)
 all_goals first | trivial | ((try simp only[NB]at *)<;>omega) | grind [eA,mA]
def zoX{a0 a1 a2 a3}(ha:wt a3≤1000):Ok (Ig a0 a1 a2 a3) λr=>r=0→a3.Kind=3∧oB a3=true:=by
 unfold Ig
 refine .j0 (.c (λh1=> .kt (.s ?_))
  λh1=>have:=zcl (nf h1); .c (λh2=> .kt (.s ?_))
  λh2=> .c (λh3=> .kt (.s ?_))
  λh3=>have:=rF (nf h3); .c (λh4=> .kt (.s ?_))
  λh4=> .m (oA ?_) (.c (λh5=> .s ?_)
  λh5=>have:=jD (nf h5); .b zph λr4 _=> .c (λh6=> .s ?_)
  λh6=> .b (zia ?_ ?_) λr5 RV=> .b (zdN ?_ ?_) λr6 _=> .c (λh7=> .s ?_)
  λh7=> .s ?_))
 all_goals first | trivial | ((try simp only[NB]at *)<;>omega) | grind [eA,mA]
def zhf{a0 a1}:Ok (Bz a0 a1) λr=>r=IC a0 a1:=by
 unfold Bz;refine have:=XK a0 a1;
 .s ?_
 all_goals first | trivial | ((try simp only[NB]at *)<;>omega) | grind [eA,mA]
def zdy{a0}:Ok (Bg a0) λr=>r.length=32∨r.length=0:=by
 unfold Bg
 refine .c (λh1=> .s ?_)
  λh1=>have:=ZK (nf h1); .b zhf λr2 DW=>have:=zk7 [UInt8.ofNat (114:Int).toNat,UInt8.ofNat (111:Int).toNat,UInt8.ofNat (97:Int).toNat,UInt8.ofNat (109:Int).toNat] a0; .m (oA ?_) (have:=gM r2 [102,105,110,105,115,104];have:=@hM r2 [102,105,110,105,115,104]; .s ?_)
 all_goals first | trivial | ((try simp only[NB]at *)<;>omega) | grind [eA,mA]
def zdB{a0 a1 a2 a3 a4}(ha:wt a1≤1000000000)(hb:wt a2≤1000000000)(hc:wt a4≤1000000000):Ok (Dc a0 a1 a2 a3 a4) λr=>r.length≤60:=by
 unfold Dc
 refine .j0 (.c (λh1=> .kt (.s ?_))
  λh1=> .c (λh2=> .kt (.s ?_))
  λh2=>have:=RJ (nf h2); .c (λh3=> .kt (.s ?_))
  λh3=>have:=RJ (nf h3); .c (λh4=> .kt (.s ?_))
  λh4=> .c (λh5=> .s ?_)
  λh5=> .m (oA ?_) (have:=CG [] a3 4; .m (oA ?_) (have:=gI [([UInt8.ofNat (102:Int).toNat,UInt8.ofNat (IntKind.wrap .u8 a0:Int).toNat]:List UInt8),a1,a2,(rD [] a3 4),a4]; .s ?_)))
 all_goals first | trivial | ((try simp only[NB]at *)<;>omega) | grind [eA,mA]
def zhH{a0 a1 a2 a3 a4 a5}(ha:wt a2≤1000000000)(hb:wt a3≤1000000000)(hc:wt a5≤1000000000):Ok (Dq a0 a1 a2 a3 a4 a5) λr=>r.length=0∨r.length=16:=by
 unfold Dq
 refine .b zdy λr1 QV=> .b (zdB ?_ ?_ ?_) λr2 DW=>have:=@aI r1 r2; .j0 (.c (λh1=> .kt (.s ?_))
  λh1=> .c (λh2=> .s ?_)
  λh2=> .b hU λr5 RV=> .s ?_)
 all_goals first | trivial | ((try simp only[NB]at *)<;>omega) | grind [eA,mA]
def zn2{a0 a1}(ha:wt a1≤1000):Ok (Ih a0 a1) λr=>True:=by
 unfold Ih
 refine .j0 (.c (λh1=> .m (oA ?_) (.c (λh2=>have:=jD h2; .b (zhH ?_ ?_ ?_) λr4 SV=> .b (zdN ?_ ?_) λr5 _=> .s ?_)
  λh2=> .s ?_))
  λh1=> .s ?_)
 all_goals first | trivial | ((try simp only[NB]at *)<;>omega) | grind [eA,mA]
def znG{a0}:Ok (Cv a0) λr=>r=⟨a0,[]⟩:=by
 unfold Cv;refine .s ?_
 all_goals first | trivial | ((try simp only[NB]at *)<;>omega) | grind [eA,mA]
def zn7{a0 a1 a2}(ha:vC a0=true)(hb:a1.length=12)(hc:a2.length=12):Ok (Ii a0 a1 a2) λr=>r.length=32:=by
 unfold Ii;refine have:=ZK ha;have hm:=@aI (List.flatten [a1,a2]) a0;
 .j0 (.c (λh1=> .kt (.s ?_))
  λh1=>have:=ZK (nf h1); .c (λh2=> .kt (.s ?_))
  λh2=>have:=RJ (nf h2); .c (λh3=> .s ?_)
  λh3=>have:=RJ (nf h3); .m (oA ?_) (have:=gI [a1,a2]; .b zhf λr4 SV=> .s ?_))
 all_goals first | trivial | ((try simp only[NB]at *)<;>omega) | grind [eA,mA]
def znC{a0}:Ok (Ct a0) λr=>a0.length=32→r.length=32:=by
 unfold Ct
 refine .c (λh1=> .s ?_)
  λh1=> .m (oA ?_) (have:=gM a0 [101,112,111,99,104];have:=@hM a0 [101,112,111,99,104]; .s ?_)
 all_goals first | trivial | ((try simp only[NB]at *)<;>omega) | grind [eA,mA]
def zpj{a0 a1}(ha:a0.length≤100):Ok (Ij a0 a1) λr=>a1=0→r=a0:=by
 unfold Ij
 refine .c (λh1=> .s ?_)
  λh1=> .m (oA ?_) (.j (λy2:(List UInt8)=>y2.length≤200∧(a1=0→y2=a0)) (λy2 rW=> .s ?_)
  λk3 JV=> .l (λx4:(List UInt8)×Int=>(0≤x4.2∧x4.2≤64)∧x4.1.length≤200∧(a1=0→x4.1=a0)) (λx4:(List UInt8)×Int=>(64 - x4.2).toNat) (λx4 JX k5 sW=> .c (λh2=> .m (oA ?_) (have:=gM x4.1 [114,101,107,101,121];have:=@hM x4.1 [114,101,107,101,121];sW _ ⟨?_,?_,?_⟩ ?_))
  λh2=>JV _ ⟨?_,?_⟩) ⟨?_,?_,?_⟩ ?_)
 all_goals first | trivial | ((try simp only[NB]at *)<;>(try simp(disch:=omega) only[DA,SA]at *)<;>omega) | grind [eA,mA]
def zg5{a0 a1 a2 a3}(ha:vC a0=true)(hb:a1.length=12)(hc:a2.length=12):Ok (Gb a0 a1 a2 a3) λr=>a3=0→r.length=32:=by
 unfold Gb
 refine .b (zn7 ?_ ?_ ?_) λr1 QV=> .b znC λr2 DW=> .c (λh1=> .s ?_)
  λh1=> .b (zpj ?_) λr3 pW=> .s ?_
 all_goals first | trivial | ((try simp only[NB]at *)<;>omega) | grind [eA,mA]
def zd1{a0 a1}(ha:0≤a0∧a0≤4294967295)(hb:a1.length=32):Ok (Dd a0 a1) λr=>JC r=true∧(r.N=a0∧r.Key=a1∧r.Seq=0):=by
 unfold Dd
 refine .j0 (.c (λh1=> .kt (.s ⟨?_,?_⟩))
  λh1=> .c (λh2=> .s ⟨?_,?_⟩)
  λh2=> .m (oA ?_) (.b zoQ λr4 SV=> .s ⟨?_,?_⟩))
 all_goals first | trivial | ((try simp only[NB]at *)<;>omega) | grind [eA,mA,JC]
def zha{a0 a1 a2}(ha:a0=0∨a0=1)(hb:a1.length=12)(hc:a2.length=32):Ok (Gc a0 a1 a2) λr=>XB r=true∧(r.Role=a0∧r.Sn=a1∧r.Cur.N=0∧r.HasOld=false∧r.Next=[]):=by
 unfold Gc
 refine .j0 (.c (λh1=> .kt (.s ⟨?_,?_⟩))
  λh1=> .c (λh2=> .kt (.s ⟨?_,?_⟩))
  λh2=>have:=RJ (nf h2); .c (λh3=> .s ⟨?_,?_⟩)
  λh3=> .m (oA ?_) (.b (zd1 ?_ ?_) λr4 SV=> .s ⟨?_,?_⟩))
 all_goals first | trivial | ((try simp only[NB]at *)<;>omega) | grind [eA,mA,XB,GG,JF,LA]
def zn3{a0 a1 a2 a3}(ha:vC a0=true)(hb:eA a1 0 1000000=true)(hc:GA a2=true)(hd:oB a3=true)(he:a3.Kind=3):Ok (En a0 a1 a2 a3) λr=>kC r=true∧(r.Id=a3.Id∧r.Sn=a3.Sn∧r.Cn=a3.Cn∧r.Dead=false):=by
 unfold En;refine have:=jD hd;have:=zkK hd he;have:=@zrY a2 hc;
 .j0 (.c (λh1=> .kt (.s ⟨?_,?_⟩))
  λh1=>have:=ZK (nf h1); .c (λh2=> .kt (.s ⟨?_,?_⟩))
  λh2=> .c (λh3=> .kt (.s ⟨?_,?_⟩))
  λh3=>have:=rF (nf h3); .c (λh4=> .kt (.s ⟨?_,?_⟩))
  λh4=> .m (oA ?_) (.c (λh5=> .s ⟨?_,?_⟩)
  λh5=>have:=jD (nf h5); .m (oA ?_) (.m (oA ?_) (.b znG λr6 vW=> .b (zg5 ?_ ?_ ?_) λr7 FW=> .b (zha ?_ ?_ ?_) λr8 QW=> .s ⟨?_,?_⟩))))
 all_goals first | trivial | ((try simp only[NB]at *)<;>omega) | grind [eA,mA,kC]
def zhl{a0 a1}(ha:OC a0=true)(hb:wt a1≤400):Ok (Bl a0 a1) λr=>OC r.1=true∧(∀e∈r.1.L,e∈a0.L∨e=a1)∧(r.2=0→0≤AE r.1 a1.Sn):=by
 unfold Bl;refine have:=dL ha;have:=@zsp a0.Cap a0.L a1;
 .m (oA ?_) (.j0 (.m (oA ?_) (.c (λh1=> .kt (.s ⟨?_,?_,?_⟩))
  λh1=>have:=dL (nf h1); .m (oA ?_) (.c (λh2=> .kt (.s ⟨?_,?_,?_⟩))
  λh2=>have:=SK (nf h2); .c (λh3=> .s ⟨?_,?_,?_⟩)
  λh3=> .m (oA ?_) (have:=JN a0 a1.Sn; .c (λh4=> .s ⟨?_,?_,?_⟩)
  λh4=> .j0 (.m (oA ?_) (.c (λh5=> .kt (.s ⟨?_,?_,?_⟩))
  λh5=> .c (λh6=> .s ⟨?_,?_,?_⟩)
  λh6=> .m (oA ?_) (.g ?_ (.s ⟨?_,?_,?_⟩)))))))))
 all_goals first | trivial | ((try simp only[NB]at *)<;>omega) | grind [eA,mA,ztr]
def zaV{a0 a1 a2}(ha:a0.length=32∨a0.length=0)(hb:a1.length=12∨a1.length=0)(hc:a2.length≤100):Ok (Dr a0 a1 a2) λr=>nC r=true:=by
 unfold Dr;refine .m (oA ?_) (.m (oA ?_) (.m (oA ?_) (.s ?_)))
 all_goals first | trivial | ((try simp only[NB]at *)<;>omega) | grind [eA,mA,nC,LC,tE,GA,kD,qC,jE]
def ziH{a0}(ha:XB a0=true):Ok (Gd a0) λr=>XB r.1=true∧(r.1.Role=a0.Role∧r.1.Sn=a0.Sn∧r.1.Next=a0.Next∧r.1.Cur.N=a0.Cur.N∧r.1.HasOld=a0.HasOld)∧wt r.2.1≤300∧gH r.2.1 a0.Sn:=by
 unfold Gd;refine have:=GC ha;
 .j0 (.m (oA ?_) (.c (λh1=> .kt (.m (oA ?_) (.s ⟨?_,?_,?_,?_⟩)))
  λh1=>have:=GC (nf h1); .c (λh2=> .m (oA ?_) (.s ⟨?_,?_,?_,?_⟩))
  λh2=> .b zdA λr5 RV=> .b (cP ?_ ?_) λr6 vW=> .s ⟨?_,?_,?_,?_⟩))
 all_goals first | trivial | ((try simp only[NB]at *)<;>omega) | grind [eA,mA,gH]
def zhj{a0}(ha:kC a0=true):Ok (Eo a0) λr=>GE a0 r.1∧vE r.2.1∧(r.2.1.length≤1∧wt r.2.1≤400)∧TB r.2.2∧r.2.2.length≤1:=by
 unfold Eo;refine have:=TE ha;have hl:=@GM a0 ha;have:=NN ha;
 .m (oA ?_) (.j0 (.m (oA ?_) (.c (λh1=> .kt (.s ⟨?_,?_,?_,?_,?_⟩))
  λh1=>have:=SK (nf h1); .c (λh2=> .kt (.s ⟨?_,?_,?_,?_,?_⟩))
  λh2=> .c (λh3=> .s ⟨?_,?_,?_,?_,?_⟩)
  λh3=> .b (ziH ?_) λr5 RV=> .c (λh4=> .s ⟨?_,?_,?_,?_,?_⟩)
  λh4=> .b (HL ?_ ?_) λr6 vW=> .s ⟨?_,?_,?_,?_,?_⟩)))
 all_goals first | trivial | ((try simp only[NB]at *)<;>omega) | grind [eA,mA,uM,fO,UG,kD,qC]
def zab{a0 a1 a2}(ha:OC a0=true)(hb:wt a2≤400):Ok (Bu a0 a1 a2) λr=>OC r.1=true∧(∀e∈r.1.L,e∈a0.L∨e=a2)∧r.1.L.length=a0.L.length:=by
 unfold Bu;refine have:=dL ha;
 .m (oA ?_) (.j0 (.m (oA ?_) (.c (λh1=> .kt (.s ⟨?_,?_,?_⟩))
  λh1=>have:=dL (nf h1); .c (λh2=> .kt (.s ⟨?_,?_,?_⟩))
  λh2=> .c (λh3=> .s ⟨?_,?_,?_⟩)
  λh3=> .m (oA ?_) (.h ?_ (.bg ?_ λe6 dY kX=> .m (oA (have:=wD a0.L a1.toNat a2;?_)) (.c (λh4=> .m (oA ?_) (.s ⟨?_,?_,?_⟩))
  λh4=>have:=dL (nf h4); .s (have:=wD a0.L a1.toNat a2;⟨?_,?_,?_⟩)))))))
 all_goals first | trivial | ((try simp only[NB]at *)<;>omega) | grind [eA,mA,zfe]
def znT{a0 a1 a2 a3}(ha:BB a0=true)(hb:eA a1 0 1000000=true)(hc:GA a2=true)(hd:oB a3=true):Ok (Jn a0 a1 a2 a3) λr=>BB r.1=true∧r.1.Psks=a0.Psks∧vE r.2.1∧(r.2.1.length≤2∧wt r.2.1≤1000)∧TB r.2.2∧r.2.2.length≤8:=by
 unfold Jn;refine have:=oF ha;have hs:=IE.1 ha;have:=hs.jar;have:=hs.dice;have:=jD hd;
 .j0 (.c (λh1=> .kt (.s ⟨?_,?_,?_,?_,?_,?_⟩))
  λh1=> .b (zhr ?_) λr3 _=> .c (λh2=> .kt (.s ⟨?_,?_,?_,?_,?_,?_⟩))
  λh2=> .c (λh3=> .s ⟨?_,?_,?_,?_,?_,?_⟩)
  λh3=> .m (oA ?_) (have:=PI a0.D; .b (zia ?_ ?_) λr5 RV=> .m (oA ?_) (.m (oA ?_) (.b (zdH ?_ ?_) λr8 QW=> .b (zd7 ?_ ?_) λr9 FX=> .m (oA ?_) (have:=zbF (QC a0.D).2;have:=@za0 (QC a0.D).2; .s ⟨?_,?_,?_,?_,?_,?_⟩)))))
 all_goals first | trivial | ((try simp only[NB]at *)<;>omega) | grind [eA,mA,BB,UE,fO,UG,xE,nC,LC,tE,GA,kD,qC,jE]
def zmS{a0 a1 a2 a3}(ha:BB a0=true)(hb:eA a1 0 1000000=true)(hc:GA a2=true)(hd:oB a3=true):Ok (Jp a0 a1 a2 a3) λr=>BB r.1=true∧r.1.Psks=a0.Psks∧vE r.2.1∧(r.2.1.length≤2∧wt r.2.1≤1000)∧TB r.2.2∧r.2.2.length≤8:=by
 unfold Jp;refine have:=oF ha;have hs:=IE.1 ha;have:=hs.jar;have:=hs.tab;have:=jD hd;have hf3:=@zkK a3 hd;have hw:=QB a0.T.L;have hp:=QB a0.Psks;
 .j0 (.b (zoX ?_) λr3 pW=> .c (λh1=> .kt (.s ⟨?_,?_,?_,?_,?_,?_⟩))
  λh1=> .c (λh2=> .kt (.s ⟨?_,?_,?_,?_,?_,?_⟩))
  λh2=> .bm ?_ ?_ λe4 TY vY=>have:=hs.psk e4 TY; .b (zn2 ?_) λr5 _=> .c (λh3=> .s ⟨?_,?_,?_,?_,?_,?_⟩)
  λh3=> .m (oA ?_) (have:=JN a0.T a3.Sn; .j (λy7:(List Ad)×Ac×Ac=>TB y7.1∧y7.1.length≤3∧BB y7.2.2=true∧y7.2.2.Psks=a0.Psks∧0≤AE y7.2.2.T a3.Sn) (λy7 IY=>have⟨hn7,hm7,hs7,hp7,hf7⟩:=IY;have:=oF hs7;have S:=IE.1 hs7;have:=S.tab;have:=kE hn7; .m (oA ?_) (have:=JN y7.2.2.T a3.Sn; .bm ?_ ?_ λe22 EZ Y2=>have LZ:=(KE.1 S.tab).el _ EZ;have:=TE LZ; .j0 (.c (λh4=> .kt (.s ⟨?_,?_,?_,?_,?_,?_⟩))
  λh4=> .c (λh5=> .kt (.s ⟨?_,?_,?_,?_,?_,?_⟩))
  λh5=> .m (oA ?_) (.c (λh6=> .s ⟨?_,?_,?_,?_,?_,?_⟩)
  λh6=> .b (zhj ?_) λr26 yY=>have:=TE yY.1.1;have:=kE yY.2.2.2.1; .b (zab ?_ ?_) λr27 XY=>have Z2:=cJ (d:=⟨y7.2.2.Psks,y7.2.2.J,y7.2.2.D,r27.1,y7.2.2.Cr⟩) hs7 rfl S.jar S.dice XY.1 S.cr (λe he=>(XY.2.1 e he).elim (S.id e) λh=>by rw[h,yY.1.2.1];exact S.id _ EZ);have KW:=jE.2 ⟨hn7,yY.2.2.2.1⟩; .g ?_ (.s ⟨?_,?_,?_,?_,?_,?_⟩)))))
  λk8 qW=> .c (λh7=> .bm ?_ ?_ λe9 nZ bY=>have hpk:=hs.psk e9 nZ; .b (zn3 ?_ ?_ ?_ ?_ ?_) λr10 uW=>have:=TE uW.1;have hch:=GC (GM uW.1 uW.2.2.2.2).1; .b (zhl ?_ ?_) λr11 YW=>have Z2:=cJ (d:=⟨a0.Psks,a0.J,a0.D,r11.1,a0.Cr⟩) ha rfl hs.jar hs.dice YW.1 hs.cr (λe he=>(YW.2.1 e he).elim (hs.id e) λh=>by rw[h,uW.2.1];simp at h2;omega); .c (λh8=> .s ⟨?_,?_,?_,?_,?_,?_⟩)
  λh8=> .b (zdH ?_ ?_) λr12 QX=> .b (zaV ?_ ?_ ?_) λr13 CZ=> .b zdy λr14 UY=> .b (zdB ?_ ?_ ?_) λr15 cY=> .b (zaV ?_ ?_ ?_) λr16 TX=>have KW:TB [r13,r16,(⟨4,a3.Id,0,a3.Cn,a3.Sn,0,0,[],r10.C.Cur.Key,a2,a1⟩:Ad)]:=kD.2 ⟨CZ,kD.2 ⟨TX,kD.2 ⟨by grind [nC,LC,tE,eA],qC⟩⟩⟩;have:=kE KW; .m (oA ?_) (.m (oA ?_) (.m (oA ?_) (.g ?_ (qW _ ⟨?_,?_,?_,?_,?_⟩)))))
  λh7=>qW _ ⟨?_,?_,?_,?_,?_⟩))
 all_goals first | trivial | assumption | exact UG | exact qC | exact KW | ((try simp only[NB]at *)<;>(try simp(disch:=omega) only[DA,SA]at *)<;>omega) | grind [eA,mA,fO,UG,zfw,nC,LC,tE,GA,kD,qC,jE]
end Go.D
namespace Go.D
def zoI{a0 a1 a2}(ha:wt a0≤1000000000)(hb:wt a2≤1000000000):Ok (Ik a0 a1 a2) λr=>r.1.length≤a2.Body.length:=by
 unfold Ik
 refine .b (fP ?_) λr1 QV=> .j0 (.c (λh1=> .kt (.s ?_))
  λh1=> .c (λh2=> .kt (.s ?_))
  λh2=> .b hU λr4 SV=> .b (zdN ?_ ?_) λr5 _=> .c (λh3=> .s ?_)
  λh3=> .b (zdR ?_) λr6 vW=> .b (zes ?_ ?_) λr7 FW=> .s ?_)
 all_goals first | trivial | ((try simp only[NB]at *)<;>omega) | grind [eA,mA]
def zom{a0 a1 a2}(ha:JC a0=true)(hb:wt a2≤1000):Ok (Eq a0 a1 a2) λr=>JC r.1=true∧(r.1.N=a0.N∧r.1.Key=a0.Key∧r.1.Seq=a0.Seq)∧r.2.1.length≤a2.Body.length:=by
 unfold Eq;refine have:=epF ha;
 .m (oA ?_) (.j0 (.c (λh1=> .kt (.s ⟨?_,?_,?_⟩))
  λh1=>have:=epF (nf h1); .b (fP ?_) λr4 SV=> .c (λh2=> .kt (.s ⟨?_,?_,?_⟩))
  λh2=> .c (λh3=> .s ⟨?_,?_,?_⟩)
  λh3=> .b (zdV ?_) λr5 RV=> .c (λh4=> .s ⟨?_,?_,?_⟩)
  λh4=> .b (zoI ?_ ?_) λr6 vW=> .c (λh5=> .s ⟨?_,?_,?_⟩)
  λh5=> .s ⟨?_,?_,?_⟩))
 all_goals first | trivial | ((try simp only[NB]at *)<;>omega) | grind [eA,mA,JC]
def zgT{a0 a1 a2}(ha:XB a0=true)(hb:wt a2≤1000):Ok (Df a0 a1 a2) λr=>XB r.1=true∧(r.1.Role=a0.Role∧r.1.Sn=a0.Sn)∧(r.1.Next=a0.Next∧r.1.Cur.N=a0.Cur.N∨r.1.Next=[]∧r.1.Cur.N≠a0.Cur.N)∧r.2.1.length≤a2.Body.length∧(r.2.2=0→oB a2=true∧PB a2.Kind=true∧eA a1 0 1000000=true):=by
 unfold Df;refine have:=GC ha;have i1:=@DA a0.Cur.N 1;have i2:=@SA a0.Cur.N 1;have i3:=@DA a1 5;
 .m (oA ?_) (.j0 (.m (oA ?_) (.c (λh1=> .kt (.s ⟨?_,?_,?_,?_,?_⟩))
  λh1=>have:=GC (nf h1); .c (λh2=> .kt (.s ⟨?_,?_,?_,?_,?_⟩))
  λh2=> .c (λh3=> .kt (.s ⟨?_,?_,?_,?_,?_⟩))
  λh3=> .m (oA ?_) (.c (λh4=> .s ⟨?_,?_,?_,?_,?_⟩)
  λh4=>have:=jD (nf h4); .j (λy6:Bool=>y6=true→a0.HasOld=true∧a2.Epoch=a0.Old.N) (λy6 oZ=> .j (λy8:Bool=>y8=true→a0.Next.length>0∧a2.Epoch=gA .i64 a0.Cur.N 1) (λy8 hy8=> .j (λy10:Bool=>y10=false→(a2.Epoch=a0.Cur.N∨y6=true∨y8=true)) (λy10 SX=> .c (λh5=> .s ⟨?_,?_,?_,?_,?_⟩)
  λh5=> .jt (λy13=> .c (λh6=> .s ⟨?_,?_,?_,?_,?_⟩)
  λh6=> .j (λy15:Av=>JC y15=true∧(y6=true∧y15=a0.Old∨y6=false∧y15=a0.Cur)) (λy15 F0=> .j (λy17:Av=>JC y17=true∧(y8=true∧y17.N=a0.Cur.N+1∨y8=false∧(y6=true∧y17=a0.Old∨y6=false∧y17=a0.Cur))) (λy17 S0=> .b (zom ?_ ?_) λr20 C0=>have i4:=@SA r20.1.N 1; .c (λh7=> .s ⟨?_,?_,?_,?_,?_⟩)
  λh7=> .j (λy21:Am=>XB y21=true∧(y21.Role=a0.Role∧y21.Sn=a0.Sn)∧(y21.Next=a0.Next∧y21.Cur.N=a0.Cur.N∨y21.Next=[]∧y21.Cur.N≠a0.Cur.N)) (λy21 hy21=> .s ⟨?_,?_,?_,?_,?_⟩)
  λk22 HX=> .c (λh8=> .j0 (.c (λh9=> .j0 (.c (λmW=>HX _ ⟨?_,?_,?_⟩)
  λmW=>HX _ ⟨?_,?_,?_⟩))
  λh9=> .j0 (.kf (HX _ ⟨?_,?_,?_⟩))))
  λh8=> .j0 (.c (λGW=>HX _ ⟨?_,?_,?_⟩)
  λGW=>HX _ ⟨?_,?_,?_⟩))
  λk18 cX=> .c (λIW=> .b (zd1 ?_ ?_) λr19 BZ=>cX _ ⟨?_,?_⟩)
  λIW=>cX _ ⟨?_,?_⟩)
  λk16 aX=> .c (λSW=>aX _ ⟨?_,?_⟩)
  λSW=>aX _ ⟨?_,?_⟩)
  λk14 eW=> .c (λgY=> .c (λiY=>eW _)
  λiY=>eW _)
  λgY=>eW _)
  λk11 fW=> .b (zh8 ?_ ?_) λr12 _=> .c (λoY=>fW _ ?_)
  λoY=> .c (λYY=> .c (λT0=>fW _ ?_)
  λT0=>fW _ ?_)
  λYY=>fW _ ?_)
  λk9 KX=> .c (λqZ=>KX _ ?_)
  λqZ=>KX _ ?_)
  λk7 wW=> .c (λrZ=>wW _ ?_)
  λrZ=>wW _ ?_))))
 all_goals first | trivial | ((try simp only[NB]at *)<;>(try simp(disch:=omega) only[DA,SA]at *)<;>omega) | grind [eA,mA,XB,GG]
def zhC{a0 a1}(ha:XB a0=true):Ok (Ge a0 a1) λr=>r.1.length=0∨r.1.length=32:=by
 unfold Ge;refine have:=GC ha;
 .m (oA ?_) (.c (λh1=> .s ?_)
  λh1=>have:=GC (nf h1); .j (λy2:Bool=>y2=true→a0.HasOld=true) (λy2 rW=> .c (λh2=> .m (oA ?_) (.s ?_))
  λh2=> .c (λh3=> .m (oA ?_) (.s ?_))
  λh3=> .j0 (.c (λh4=> .c (λh5=> .m (oA ?_) (.s ?_))
  λh5=> .s ?_)
  λh4=> .kf (.s ?_)))
  λk3 JV=> .c (λh6=>JV _ ?_)
  λh6=>JV _ ?_)
 all_goals first | trivial | ((try simp only[NB]at *)<;>(try simp(disch:=omega) only[DA,SA]at *)<;>omega) | grind [eA,mA,XB,JC,GG]
def zoN{a0 a1 a2 a3}(ha:gC a0=true)(hb:wt a3≤1000):Ok (Gf a0 a1 a2 a3) λr=>gC r.1=true:=by
 unfold Gf;refine have:=VH ha;have hw:=QB a0.Cands;
 .m (oA ?_) (.m (oA ?_) (have:=zji a0 a2; .j0 (.c (λh1=> .kt (.s ?_))
  λh1=>have:=VH (nf h1); .c (λh2=> .kt (.s ?_))
  λh2=> .c (λh3=> .kt (.s ?_))
  λh3=> .bm ?_ ?_ λe5 gX ZW=> .m (oA ?_) (.c (λh4=> .kt (.s ?_))
  λh4=> .bm ?_ ?_ λe7 MZ uY=> .c (λh5=> .s ?_)
  λh5=> .h ?_ (.h ?_ (.g (have:=TD a0.Cands (((qE a0 a2) - 0).toNat);have:=TD (List.drop ((gA .i64 (qE a0 a2) 1).toNat) a0.Cands) (((a0.Cands.length:Int) - (gA .i64 (qE a0 a2) 1)).toNat);have:=cF a0.Cands ((gA .i64 (qE a0 a2) 1).toNat);?_) (.s (have:=TD a0.Cands (((qE a0 a2) - 0).toNat);have:=TD (List.drop ((gA .i64 (qE a0 a2) 1).toNat) a0.Cands) (((a0.Cands.length:Int) - (gA .i64 (qE a0 a2) 1)).toNat);have:=cF a0.Cands ((gA .i64 (qE a0 a2) 1).toNat);?_))))))))
 all_goals first | trivial | exact zqd ha (by simp at h3;omega) | ((try simp only[NB]at *)<;>(try simp(disch:=omega) only[DA,SA]at *)<;>omega) | grind [eA,mA]
def zp8{a0}(ha:XB a0=true):Ok (Il a0) λr=>XB r.1=true∧(r.1.Role=a0.Role∧r.1.Sn=a0.Sn):=by
 unfold Il;refine have:=GC ha;
 .m (oA ?_) (.j0 (.m (oA ?_) (.c (λh1=> .kt (.s ⟨?_,?_⟩))
  λh1=>have:=GC (nf h1); .c (λh2=> .kt (.s ⟨?_,?_⟩))
  λh2=> .c (λh3=> .s ⟨?_,?_⟩)
  λh3=> .m (oA ?_) (have:=gM a0.Cur.Key [114,101,107,101,121];have:=@hM a0.Cur.Key [114,101,107,101,121]; .b (zd1 ?_ ?_) λr6 vW=> .s ⟨?_,?_⟩))))
 all_goals first | trivial | ((try simp only[NB]at *)<;>(try simp(disch:=omega) only[DA,SA]at *)<;>omega) | grind [eA,mA,XB,GG,DA,SA]
def znc{a0 a1 a2}(ha:XB a0=true)(hb:wt a2≤1000):Ok (Im a0 a1 a2) λr=>XB r.1=true∧(r.1.Role=a0.Role∧r.1.Sn=a0.Sn):=by
 unfold Im;refine have:=GC ha;
 .m (oA ?_) (.j0 (.m (oA ?_) (.c (λh1=> .kt (.s ⟨?_,?_⟩))
  λh1=>have:=GC (nf h1); .c (λh2=> .kt (.s ⟨?_,?_⟩))
  λh2=> .c (λh3=> .kt (.s ⟨?_,?_⟩))
  λh3=> .b zdA λr5 RV=> .m (oA ?_) (.c (λh4=> .s ⟨?_,?_⟩)
  λh4=> .c (λh5=> .s ⟨?_,?_⟩)
  λh5=> .b (zp8 ?_) λr7 FW=> .j0 (.c (λh6=> .kt (.s ⟨?_,?_⟩))
  λh6=> .c (λh7=> .s ⟨?_,?_⟩)
  λh7=> .s ⟨?_,?_⟩)))))
 all_goals first | trivial | ((try simp only[NB]at *)<;>(try simp(disch:=omega) only[DA,SA]at *)<;>omega) | grind [eA,mA]
def znj{a0 a1 a2}(ha:kC a0=true)(hb:a0.Dead=false)(hc:wt a2≤1000):Ok (Jq a0 a1 a2) λr=>GE a0 r.1∧vE r.2.1∧(r.2.1.length≤1∧wt r.2.1≤400)∧TB r.2.2∧r.2.2.length≤2∧r.1.Dead=false:=by
 unfold Jq;refine have:=TE ha;have hl:=GM ha hb;have:=NN ha;
 .b (znc ?_ ?_) λr1 QV=>have:=GC QV.1; .c (λh1=> .s ⟨?_,?_,?_,?_,?_,?_⟩)
  λh1=> .j (λy2:(List Ad)=>TB y2∧y2.length≤1) (λy2 rW=>have:=kE rW.1; .b (ziH ?_) λr7 FW=> .c (λh2=> .s ⟨?_,?_,?_,?_,?_,?_⟩)
  λh2=> .b (HL ?_ ?_) λr8 QW=>have KW:=jE.2 ⟨rW.1,kD.2 ⟨QW,qC⟩⟩;have:=AS QW; .g ?_ (.s ⟨?_,?_,?_,?_,?_,?_⟩))
  λk3 JV=> .c (λh3=> .m (oA ?_) (.m (oA ?_) (.g ?_ (JV _ ⟨?_,?_⟩))))
  λh3=>JV _ ⟨?_,?_⟩
 all_goals first | trivial | exact uM ha (by grind) (by grind) (by grind) hl.2.2.2.1 hl.2.2.2.2.2 hb | ((try simp only[NB]at *)<;>omega) | grind [eA,mA,uM,fO,UG,nC,LC,tE,GA,kD,qC,jE]
def zgK{a0 a1}(ha:gC a0=true):Ok (Ds a0 a1) λr=>gC r=true∧r.At=a0.At:=by
 have hL:=mB;have hf:=VH ha;unfold Ds;refine .m (oA (by omega)) (.j (λy:Ah=>y.At=a0.At∧y.Cands.Sublist a0.Cands) (λy hy=> .s ⟨?_,hy.1⟩) λk hk=> .l (λx:Int×Ah=>∃i:Nat,x.1=(i:Int)∧i≤a0.Cands.length∧x.2.At=a0.At∧x.2.Cands.Sublist (a0.Cands.take i)) (λx:Int×Ah=>((a0.Cands.length:Int) - x.1).toNat) (λx hx k' NW=>?_) ⟨0,rfl,Nat.zero_le _,rfl, .slnil⟩ (by simp only;omega))
 ·have:=zsL ha hy.2;rwa [←hy.1]at this
 ·obtain⟨i,h1,h2,h3,h4⟩:=hx;have hs:=h4.trans (List.take_sublist _ _);refine .c (λh=>?_) λ_=>hk _ ⟨h3,hs⟩;simp only[B]at h;have o3:gA .i64 x.1 1=((i+1:Nat):Int):=by rw[h1,DA (by omega) (by omega)];omega
  refine .h (by simp only[B];omega) ?_;rw[show x.1.toNat=i by omega];refine .bg (by omega) λe he hew=>?_;have ht:=take_succ he;have hl:=hs.length_le;refine .j (λy:Ah=>y.At=a0.At∧y.Cands.Sublist (a0.Cands.take (i+1))) (λy hy=>NW _ ⟨i+1,o3,by omega,hy.1,hy.2⟩ (by simp only[o3];omega)) λk2 IV=> .c (λ_=> .g ?_ (IV _ ⟨h3,?_⟩)) λ_=>IV _ ⟨h3,?_⟩
  ·have:wt x.2.Cands≤39 *3:=by
    have:=mM 38 x.2.Cands λc hc=>by have:=SU (hs.subset hc);simp only[N]at hf this⊢;omega
    simp only[N]at hf;omega
   simp only[N]at hf hew⊢;omega
  ·rw[ht];exact h4.append (.refl _)
  ·rw[ht];exact h4.trans (List.sublist_append_left _ _)
def zpa{a0 a1 a2 a3}(ha:gC a0=true)(hb:a3.length≤100):Ok (Gg a0 a1 a2 a3) λr=>gC r.1=true∧r.1.At=a0.At∧(r.2=true→GA a2=true):=by
 unfold Gg;refine have:=VH ha;
 .j0 (.c (λh1=> .kt (.m (oA ?_) (.s ⟨?_,?_,?_⟩)))
  λh1=>have:=VH (nf h1); .c (λh2=> .kt (.m (oA ?_) (.s ⟨?_,?_,?_⟩)))
  λh2=> .c (λh3=> .kt (.m (oA ?_) (.s ⟨?_,?_,?_⟩)))
  λh3=>have:=rF (nf h3); .c (λh4=> .kt (.m (oA ?_) (.s ⟨?_,?_,?_⟩)))
  λh4=>have:=RJ (nf h4); .c (λh5=> .m (oA ?_) (.s ⟨?_,?_,?_⟩))
  λh5=> .b (zgK ?_) λr5 RV=>have:=VH RV.1;have hap:=@zsi r5 a2 a3 a1 RV.1; .j0 (.m (oA ?_) (have:=zji r5 a2; .c (λh6=> .kt (.m (oA ?_) (.s ⟨?_,?_,?_⟩)))
  λh6=> .c (λh7=> .m (oA ?_) (.s ⟨?_,?_,?_⟩))
  λh7=> .m (oA ?_) (.g ?_ (.s ⟨?_,?_,?_⟩)))))
 all_goals first | trivial | ((try simp only[NB]at *)<;>(try simp(disch:=omega) only[DA,SA]at *)<;>omega) | grind [eA,mA,zbi]
end Go.D

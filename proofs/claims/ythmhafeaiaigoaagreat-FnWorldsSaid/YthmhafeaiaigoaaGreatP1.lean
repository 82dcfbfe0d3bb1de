/-
 The program's machine comes to an end; what is right stays right.
-/
import Derived.Test.YthmhafeaiaigoaaGreatE1
set_option linter.all false
namespace Go.D
def zaM{a0}:Ok (Bf a0) λr=>tD r=true∧(eA a0 0 1000000=true→r.On=true):=by
 unfold Bf
 refine .c (λh1=> .s ⟨?_,?_⟩)
  λh1=> .s ⟨?_,?_⟩
 all_goals first | trivial | ((try simp only[NB]at *)<;>(try simp(disch:=omega) only[AA,IA]at *)<;>omega) | grind [eA,oA,tD,HF,AA]
def ziR{a0}(ha:a0.Cn.length≤100):Ok (Fv a0) λr=>wt r≤a0.Cn.length:=by
 unfold Fv;refine .m (pA ?_) (.s ?_)
 all_goals first | trivial | ((try simp only[NB]at *)<;>omega) | grind [eA,oA]
def ze5{a0 a1 a2 a3}(ha:wt a1≤1000000000):Ok (Eo a0 a1 a2 a3) λr=>r.length≤25∧(0<r.length→a1.length=12):=by
 unfold Eo
 refine .j0 (.c (λh1=> .kt (.s ⟨?_,?_⟩))
  λh1=> .c (λh2=> .kt (.s ⟨?_,?_⟩))
  λh2=>have:=cK (nf h2); .c (λh3=> .kt (.s ⟨?_,?_⟩))
  λh3=> .c (λh4=> .s ⟨?_,?_⟩)
  λh4=> .m (pA ?_) (have:=OG [] a2 4; .m (pA ?_) (have:=OG [] a3 6; .m (pA ?_) (have:=qI ([[UInt8.ofNat (IntKind.wrap .u8 a0:Int).toNat],a1,(CD [] a2 4),(CD [] a3 6)]:List (List UInt8)); .s ⟨?_,?_⟩))))
 all_goals first | trivial | ((try simp only[NB]at *)<;>omega) | grind [eA,oA]
def zfG{a0 a1 a2}(ha:wt a1≤1000000000)(hb:wt a2≤1000000000):Ok (Eq a0 a1 a2) λr=>r.length≤200∧r.length≤a2.length:=by
 unfold Eq
 refine .j0 (.c (λh1=> .kt (.s ?_))
  λh1=> .c (λh2=> .kt (.s ?_))
  λh2=> .c (λh3=> .s ?_)
  λh3=> .b (zqA ?_) λr3 pW=> .j (λy4:(List UInt8)=>y4.length≤200∧y4.length≤a2.length) (λy4 rY=> .s ?_)
  λk5 iW=> .l (λx6:(List UInt8)×Int=>0≤x6.2∧x6.2≤(r3.length:Int)∧(x6.1.length:Int)=x6.2) (λx6:(List UInt8)×Int=>((r3.length:Int) - x6.2).toNat) (λx6 n7 k7 VV=> .c (λh4=> .h ?_ (.bg ?_ λe8 W3 V2=> .bi ?_ ?_ λe9 QZ HY=> .g ?_ (VV _ ?_ ?_)))
  λh4=>iW _ ?_) ?_ ?_)
 all_goals first | trivial | ((try simp only[NB]at *)<;>(try simp(disch:=omega) only[AA,IA]at *)<;>omega) | grind [eA,oA]
def mP{a0 a1}(ha:wt a1≤1000000000):Ok (Cm a0 a1) λr=>r.length≤100:=by
 unfold Cm
 refine .j0 (.c (λh1=> .kt (.s ?_))
  λh1=> .c (λh2=> .kt (.s ?_))
  λh2=> .m (pA ?_) (.c (λh3=> .s ?_)
  λh3=>have:=rD (nf h3); .b (ze5 ?_) λr4 WV=> .m (pA ?_) (have:=qI ([[UInt8.ofNat (116:Int).toNat],r4,[UInt8.ofNat (IntKind.wrap .u8 a1.Kind:Int).toNat],a1.Body]:List (List UInt8)); .s ?_)))
 all_goals first | trivial | ((try simp only[NB]at *)<;>omega) | grind [eA,oA]
def eV{a0 a1}:Ok (Cb a0 a1) λr=>r.length≤16∧(r.length=16∨(XC a0 a1).length=0):=by
 unfold Cb;refine have hm:=mL a0 a1;have A4:=zmH a0 a1;
 .c (λh1=> .s ⟨?_,?_⟩)
  λh1=> .h ?_ (.m (pA ?_) (.s ⟨?_,?_⟩))
 all_goals first | trivial | ((try simp only[NB]at *)<;>omega) | grind [eA,oA]
def zfn{a0 a1 a2 a3 a4 a5 a6}(ha:wt a0≤1000000000)(hb:wt a2≤1000000000)(hc:wt a6≤1000000000):Ok (Dq a0 a1 a2 a3 a4 a5 a6) λr=>wt r.1≤300∧(r.1.Sn=[]∨r.1.Sn=a2)∧(r.1.Epoch=0∨r.1.Epoch=a3)∧(r.1.Seq=0∨r.1.Seq=a4):=by
 unfold Dq
 refine .m (pA ?_) (.m (pA ?_) (.j0 (.c (λh1=> .kt (.s ⟨?_,?_,?_,?_⟩))
  λh1=> .c (λh2=> .kt (.s ⟨?_,?_,?_,?_⟩))
  λh2=> .c (λh3=> .kt (.s ⟨?_,?_,?_,?_⟩))
  λh3=> .m (pA ?_) (.c (λh4=> .s ⟨?_,?_,?_,?_⟩)
  λh4=>have:=rD (nf h4); .b (ze5 ?_) λr7 MW=> .b (zfG ?_ ?_) λr8 zW=> .b (mP ?_) λr9 UW=> .b eV λr10 sW=> .s ⟨?_,?_,?_,?_⟩))))
 all_goals first | trivial | ((try simp only[NB,List.length_replicate]at *)<;>omega) | grind [eA,oA]
def zqX{a0 a1 a2 a3 a4}(ha:YC a0=true)(hb:wt a2≤1000000000)(hc:wt a4≤1000000000):Ok (Er a0 a1 a2 a3 a4) λr=>YC r.1=true∧(r.1.N=a0.N∧r.1.Key=a0.Key)∧wt r.2.1≤300∧tH r.2.1 a2:=by
 unfold Er;refine have:=epF ha;
 .m (pA ?_) (.c (λh1=> .s ⟨?_,?_,?_,?_⟩)
  λh1=>have:=epF (nf h1); .b (zfn ?_ ?_ ?_) λr2 dW=> .c (λh2=> .s ⟨?_,?_,?_,?_⟩)
  λh2=> .j0 (.c (λh3=> .c (λh4=> .s ⟨?_,?_,?_,?_⟩)
  λh4=> .c (λh5=> .s ⟨?_,?_,?_,?_⟩)
  λh5=> .b (zfn ?_ ?_ ?_) λr5 TV=> .s ⟨?_,?_,?_,?_⟩)
  λh3=> .kf (.c (λh6=> .s ⟨?_,?_,?_,?_⟩)
  λh6=> .b (zfn ?_ ?_ ?_) λr5 TV=> .s ⟨?_,?_,?_,?_⟩)))
 all_goals first | trivial | ((try simp only[NB]at *)<;>(try simp(disch:=omega) only[AA,IA]at *)<;>omega) | grind [eA,oA,tH,YC,AA]
def kP{a0 a1 a2}(ha:kC a0=true)(hb:wt a2≤1000000000):Ok (Bs a0 a1 a2) λr=>kC r.1=true∧(r.1.Role=a0.Role∧r.1.Sn=a0.Sn∧r.1.Next=a0.Next∧r.1.Cur.N=a0.Cur.N∧r.1.HasOld=a0.HasOld)∧wt r.2.1≤300∧tH r.2.1 a0.Sn:=by
 unfold Bs;refine have:=VC ha;
 .m (pA ?_) (.m (pA ?_) (.c (λh1=> .s ⟨?_,?_,?_,?_⟩)
  λh1=>have:=VC (nf h1); .b (zqX ?_ ?_ ?_) λr3 pW=> .s ⟨?_,?_,?_,?_⟩))
 all_goals first | trivial | ((try simp only[NB]at *)<;>omega) | grind [eA,oA,kC,SG,tH]
def zfl{a0 a1}(ha:a0.length=32∨a0.length=0)(hb:a1.length≤100):Ok (Es a0 a1) λr=>jC r=true:=by
 unfold Es;refine .m (pA ?_) (.m (pA ?_) (.s ?_))
 all_goals first | trivial | ((try simp only[NB]at *)<;>omega) | grind [eA,oA,jC,UC,SD,GA,sD,CC,wE]
def ZL{a0 a1}(ha:kC a0=true)(hb:wt a1≤1000):Ok (Bt a0 a1) λr=>jC r=true:=by
 unfold Bt;refine have:=VC ha;
 .b (mP ?_) λr1 PV=> .b (zfl ?_ ?_) λr2 dW=> .s ?_
 all_goals first | trivial | ((try simp only[NB]at *)<;>omega) | grind [eA,oA]
def zeG{a0 a1 a2}(ha:pB a0=true)(hb:a2.length≤300000):Ok (Kp a0 a1 a2) λr=>pB r.1=true∧(r.1.Id=a0.Id∧r.1.Psk=a0.Psk∧r.1.At=a0.At)∧dC r.2.2.1∧r.2.2.1.length≤4∧(r.2.1.length≤1∧wt r.2.1≤400):=by
 unfold Kp;refine have:=VD ha;
 .m (pA ?_) (.j0 (.m (pA ?_) (.c (λh1=> .kt (.s ⟨?_,?_,?_,?_,?_⟩))
  λh1=>have:=VD (nf h1); .c (λh2=> .kt (.s ⟨?_,?_,?_,?_,?_⟩))
  λh2=> .c (λh3=> .s ⟨?_,?_,?_,?_,?_⟩)
  λh3=> .c (λh4=> .s ⟨?_,?_,?_,?_,?_⟩)
  λh4=> .b (kP ?_ ?_) λr5 TV=> .c (λh5=> .s ⟨?_,?_,?_,?_,?_⟩)
  λh5=> .m (pA ?_) (.m (pA ?_) (.b (ZL ?_ ?_) λr8 zW=> .s ⟨?_,?_,?_,?_,?_⟩)))))
 all_goals first | trivial | ((try simp only[NB]at *)<;>omega) | grind [eA,oA,pB,tH,jC,UC,SD,GA,sD,CC, →VC]
def zrY{a0}(ha:kC a0=true):Ok (Dl a0) λr=>kC r.1=true∧(r.1.Role=a0.Role∧r.1.Sn=a0.Sn∧r.1.Cur=a0.Cur)∧(r.2=true→r.1.Next.length=32):=by
 unfold Dl;refine have:=VC ha;
 .m (pA ?_) (.j0 (.m (pA ?_) (.c (λh1=> .kt (.s ⟨?_,?_,?_⟩))
  λh1=>have:=VC (nf h1); .c (λh2=> .kt (.s ⟨?_,?_,?_⟩))
  λh2=> .c (λh3=> .kt (.s ⟨?_,?_,?_⟩))
  λh3=> .c (λh4=> .s ⟨?_,?_,?_⟩)
  λh4=> .m (pA ?_) (have:=AM a0.Cur.Key [114,101,107,101,121];have:=@DM a0.Cur.Key [114,101,107,101,121]; .s ⟨?_,?_,?_⟩))))
 all_goals first | trivial | ((try simp only[NB]at *)<;>omega) | grind [eA,oA,kC,SG]
def zeK{a0}:Ok (Bk a0) λr=>r.length≤6:=by
 unfold Bk
 refine .c (λh1=> .s ?_)
  λh1=> .m (pA ?_) (have:=OG [] a0 4; .s ?_)
 all_goals first | trivial | ((try simp only[NB]at *)<;>omega) | grind [eA,oA]
def ziq{a0}(ha:kC a0=true):Ok (Fw a0) λr=>kC r.1=true∧(r.1.Role=a0.Role∧r.1.Sn=a0.Sn∧r.1.Next=a0.Next∧r.1.Cur.N=a0.Cur.N∧r.1.HasOld=a0.HasOld)∧wt r.2.1≤300∧tH r.2.1 a0.Sn:=by
 unfold Fw;refine have:=VC ha;
 .j0 (.m (pA ?_) (.c (λh1=> .kt (.m (pA ?_) (.s ⟨?_,?_,?_,?_⟩)))
  λh1=>have:=VC (nf h1); .c (λh2=> .m (pA ?_) (.s ⟨?_,?_,?_,?_⟩))
  λh2=> .b zeK λr5 TV=> .b (kP ?_ ?_) λr6 xW=> .s ⟨?_,?_,?_,?_⟩))
 all_goals first | trivial | ((try simp only[NB]at *)<;>(try simp(disch:=omega) only[AA,IA]at *)<;>omega) | grind [eA,oA,tH]
def zeE{a0 a1}(ha:pB a0=true):Ok (Kq a0 a1) λr=>pB r.1=true∧(r.1.Id=a0.Id∧r.1.Psk=a0.Psk∧r.1.At=a0.At)∧dC r.2.2.1∧r.2.2.1.length≤4∧(r.2.1.length≤1∧wt r.2.1≤400):=by
 unfold Kq;refine have:=VD ha;
 .m (pA ?_) (.j0 (.m (pA ?_) (.c (λh1=> .kt (.s ⟨?_,?_,?_,?_,?_⟩))
  λh1=>have:=VD (nf h1); .c (λh2=> .s ⟨?_,?_,?_,?_,?_⟩)
  λh2=> .j0 (.c (λh3=> .kt (.s ⟨?_,?_,?_,?_,?_⟩))
  λh3=> .c (λh4=> .s ⟨?_,?_,?_,?_,?_⟩)
  λh4=> .b (zrY ?_) λr7 MW=> .b (ziq ?_) λr8 zW=> .j0 (.c (λh5=> .kt (.s ⟨?_,?_,?_,?_,?_⟩))
  λh5=> .c (λh6=> .s ⟨?_,?_,?_,?_,?_⟩)
  λh6=> .b zaM λr11 AW=> .b (ZL ?_ ?_) λr12 BW=> .s ⟨?_,?_,?_,?_,?_⟩)))))
 all_goals first | trivial | ((try simp only[NB]at *)<;>omega) | grind [eA,oA,pB,tH,jC,UC,SD,GA,sD,CC, →VC]
def zfs{a0 a1 a2}(ha:pB a0=true)(hb:a2.length≤100):Ok (Ko a0 a1 a2) λr=>pB r.1=true∧(r.1.Id=a0.Id∧r.1.Psk=a0.Psk∧r.1.At=a0.At)∧dC r.2.2.1∧r.2.2.1.length≤4∧(r.2.1.length≤1∧wt r.2.1≤400):=by
 unfold Ko;refine have:=VD ha;
 .m (pA ?_) (.j0 (.m (pA ?_) (.c (λh1=> .kt (.s ⟨?_,?_,?_,?_,?_⟩))
  λh1=>have:=VD (nf h1); .c (λh2=> .kt (.s ⟨?_,?_,?_,?_,?_⟩))
  λh2=> .c (λh3=> .s ⟨?_,?_,?_,?_,?_⟩)
  λh3=>have:=cK (nf h3); .c (λh4=> .s ⟨?_,?_,?_,?_,?_⟩)
  λh4=> .m (pA ?_) (.b zaM λr6 xW=> .m (pA ?_) (.b (ziR ?_) λr8 zW=> .s ⟨?_,?_,?_,?_,?_⟩)))))
 all_goals first | trivial | ((try simp only[NB]at *)<;>omega) | grind [eA,oA,pB,tH,jC,UC,SD,GA,sD,CC, →VC]
def zr8{a0 a1}(ha:pB a0=true):Ok (Ci a0 a1) λr=>pB r=true∧(r.Id=a0.Id∧r.Psk=a0.Psk):=by
 unfold Ci;refine have:=VD ha;
 .m (pA ?_) (.j0 (.m (pA ?_) (.c (λh1=>have:=VD h1; .j0 (.c (λh2=>have:=EF h2; .s ⟨?_,?_⟩)
  λh2=> .s ⟨?_,?_⟩))
  λh1=> .j0 (.kf (.s ⟨?_,?_⟩)))))
 all_goals first | trivial | ((try simp only[NB]at *)<;>omega) | grind [eA,oA,pB,fJ]
def zbQ{a0}(ha:pB a0=true):Ok (Dr a0) λr=>pB r=true∧(r.Id=a0.Id∧r.Psk=a0.Psk∧r.At=a0.At):=by
 unfold Dr;refine have:=VD ha;
 .m (pA ?_) (.s ⟨?_,?_⟩)
 all_goals first | trivial | ((try simp only[NB]at *)<;>omega) | grind [eA,oA,pB,IF,tC,HF,VF]
def zbn{a0 a1 a2}(ha:0≤a0∧a0≤9)(hb:a1=0∨a1=1)(hc:a2.length=12∨a2.length=0):Ok (Co a0 a1 a2) λr=>jC r=true:=by
 unfold Co;refine .m (pA ?_) (.s ?_)
 all_goals first | trivial | ((try simp only[NB]at *)<;>omega) | grind [eA,oA,jC,UC,SD,GA,sD,CC,wE]
def zfo{a0}(ha:pB a0=true):Ok (Kr a0) λr=>pB r.1=true∧(r.1.Id=a0.Id∧r.1.Psk=a0.Psk∧r.1.At=a0.At)∧dC r.2∧r.2.length≤1:=by
 unfold Kr;refine have:=VD ha;
 .m (pA ?_) (.c (λh1=> .m (pA ?_) (.s ⟨?_,?_,?_,?_⟩))
  λh1=>have:=VD (nf h1); .c (λh2=> .b (zbQ ?_) λr3 pW=> .s ⟨?_,?_,?_,?_⟩)
  λh2=> .b (zbQ ?_) λr4 WV=> .b (zbn ?_ ?_ ?_) λr5 TV=> .s ⟨?_,?_,?_,?_⟩)
 all_goals first | trivial | ((try simp only[NB]at *)<;>omega) | grind [eA,oA,pB, →VC,sD,CC]
def zeO{a0}(ha:wt a0≤1000000000):Ok (Bg a0) λr=>r.length≤200:=by
 unfold Bg
 refine .m (pA ?_) (.c (λh1=> .s ?_)
  λh1=>have:=rD (nf h1); .c (λh2=> .m (pA ?_) (have:=qI ([[UInt8.ofNat (IntKind.wrap .u8 a0.Kind:Int).toNat],[UInt8.ofNat (IntKind.wrap .u8 a0.Id:Int).toNat],a0.Cn,(List.replicate (20:Int).toNat (UInt8.ofNat (0:Int).toNat:UInt8):List UInt8)]:List (List UInt8)); .s ?_))
  λh2=> .c (λh3=> .m (pA ?_) (have:=OG [] a0.Tick 4; .m (pA ?_) (have:=qI ([[UInt8.ofNat (IntKind.wrap .u8 a0.Kind:Int).toNat],a0.Cn,a0.Sn,(CD [] a0.Tick 4),a0.Cookie]:List (List UInt8)); .s ?_)))
  λh3=> .c (λh4=> .m (pA ?_) (have:=OG [] a0.Tick 4; .m (pA ?_) (have:=qI ([[UInt8.ofNat (IntKind.wrap .u8 a0.Kind:Int).toNat],[UInt8.ofNat (IntKind.wrap .u8 a0.Id:Int).toNat],a0.Cn,a0.Sn,(CD [] a0.Tick 4),a0.Cookie,a0.Proof]:List (List UInt8)); .s ?_)))
  λh4=> .m (pA ?_) (have:=OG [] a0.Epoch 4; .m (pA ?_) (have:=OG [] a0.Seq 6; .m (pA ?_) (have:=qI ([[UInt8.ofNat (IntKind.wrap .u8 a0.Kind:Int).toNat],a0.Sn,(CD [] a0.Epoch 4),(CD [] a0.Seq 6),a0.Tag,a0.Body]:List (List UInt8)); .s ?_))))
 all_goals first | trivial | ((try simp only[NB,List.length_replicate]at *)<;>omega) | grind [eA,oA]
def zik{a0 a1 a2}(ha:wt a2≤1000000000):Ok (Fx a0 a1 a2) λr=>wt r≤200∧(GA a0=true→GA a1=true→CE r=true)∧(r.From=a0∧r.To=a1):=by
 unfold Fx;refine .b (zeO ?_) λr1 PV=> .s ⟨?_,?_,?_⟩
 all_goals first | trivial | ((try simp only[NB]at *)<;>omega) | grind [eA,oA,CE]
def zaK{a0 a1}(ha:wt a0≤1000000)(hb:wt a1≤1000000):Ok (Cp a0 a1) λr=>wt r≤201 *a1.length∧(GA a0.At=true→FI r a0.At∧YO r):=by
 unfold Cp;refine have hw:=tB a1;have:=zmt;
 .j (λy1:(List Am)=>wt y1≤201 *a1.length∧(GA a0.At=true→FI y1 a0.At∧YO y1)) (λy1 qW=> .s ⟨?_,?_⟩)
  λk2 KV=> .l (λx3:(List Am)×Int=>(0≤x3.2∧x3.2≤(a1.length:Int))∧wt x3.1≤201 *x3.2∧(GA a0.At=true→FI x3.1 a0.At∧YO x3.1)) (λx3:(List Am)×Int=>((a1.length:Int) - x3.2).toNat) (λx3 BY k4 UV=> .c (λh1=> .bi ?_ ?_ λe5 EX xX=> .b (zik ?_) λr7 MW=> .g ?_ (UV _ ⟨?_,?_,?_⟩ ?_))
  λh1=>KV _ ⟨?_,?_⟩) ⟨?_,?_,?_⟩ ?_
 all_goals first | trivial | ((try simp only[NB]at *)<;>(try simp(disch:=omega) only[AA,IA]at *)<;>omega) | grind [eA,oA,FI,YO]
def zeX{a0}(ha:wt a0≤1000000)(hb:∀o∈a0,GA o.To=true):Ok (Dx a0) λr=>wt r≤201 *a0.length∧FI r MD:=by
 unfold Dx;refine have hw:=tB a0;have:=zmt;
 .j (λy1:(List Am)=>wt y1≤201 *a0.length∧FI y1 MD) (λy1 qW=> .s ⟨?_,?_⟩)
  λk2 KV=> .l (λx3:(List Am)×Int=>(0≤x3.2∧x3.2≤(a0.length:Int))∧wt x3.1≤201 *x3.2∧FI x3.1 MD) (λx3:(List Am)×Int=>((a0.length:Int) - x3.2).toNat) (λx3 BY k4 UV=> .c (λh1=> .bi ?_ ?_ λe5 EX xX=>have:=hb _ (List.mem_of_getElem? EX); .b (zik ?_) λr7 MW=> .g ?_ (UV _ ⟨?_,?_,?_⟩ ?_))
  λh1=>KV _ ⟨?_,?_⟩) ⟨?_,?_,?_⟩ ?_
 all_goals first | trivial | ((try simp only[NB]at *)<;>(try simp(disch:=omega) only[AA,IA]at *)<;>omega) | grind [eA,oA,FI]
end Go.D
namespace Go.D
def zse{a0 a1 a2}(ha:iD a0=true):Ok (Hy a0 a1 a2) λr=>iD r=true:=by
 unfold Hy;refine have:=NI ha;have:=jT a0 a1;
 .m (pA ?_) (.j0 (.c (λh1=> .kt (.s ?_))
  λh1=>have:=NI (nf h1); .c (λh2=> .kt (.s ?_))
  λh2=>have:=EF (nf h2); .c (λh3=> .s ?_)
  λh3=> .j0 (.c (λh4=> .h ?_ (.bg ?_ λe6 CY wX=>have hg:=zg4 ha CY;have hx:=zgT (iA .i64 e6.Got a2) 1000000;have hk:=@zmF a0 _ e6 (aE (iA .i64 e6.Got a2) 1000000) e6.Sent ha CY; .h ?_ (.m CY (.s (have:=BC a0 ((oB a0 a1).toNat) (⟨e6.A,aE (iA .i64 e6.Got a2) 1000000,e6.Sent⟩:Al);?_)))))
  λh4=> .j0 (.c (λh5=> .g ?_ (.s ?_))
  λh5=> .s ?_))))
 all_goals first | trivial | ((try simp only[NB]at *)<;>(try simp(disch:=omega) only[AA,IA]at *)<;>omega) | grind [eA,oA,AA,zw0]
def xH{a0 a1}(ha:a0.length≤900000000)(hb:0≤a1∧a1≤100):Ok (Bl a0 a1) λr=>r.1.length≤a1∧r.2.length≤a0.length:=by
 unfold Bl;refine have hm:=zgT a1 (a0.length:Int);
 .h ?_ (.m (pA (have:=WD (List.drop 0 a0) ((aE a1 (a0.length:Int) - 0).toNat);have:=rF a0 0;?_)) (.h ?_ (.s (have:=WD (List.drop 0 a0) ((aE a1 (a0.length:Int) - 0).toNat);have:=WD (List.drop ((aE a1 (a0.length:Int)).toNat) a0) (((a0.length:Int) - (aE a1 (a0.length:Int))).toNat);have:=rF a0 0;have:=rF a0 ((aE a1 (a0.length:Int)).toNat);⟨?_,?_⟩))))
 all_goals first | trivial | ((try simp only[NB]at *)<;>omega) | grind [eA,oA]
def WL{a0 a1}(ha:a0.length≤900000000)(hb:0≤a1∧a1≤100):Ok (Cq a0 a1) λr=>r.2.length≤a0.length:=by
 unfold Cq;refine .b (xH ?_ ?_) λr1 PV=> .m (pA ?_) (.s ?_)
 all_goals first | trivial | ((try simp only[NB]at *)<;>omega) | grind [eA,oA]
def zeT{a0}(ha:wt a0≤900000000):Ok (Db a0) λr=>wt r.1≤200∧(r.2=true→AB r.1=true):=by
 unfold Db
 refine .b (WL ?_ ?_) λr1 PV=> .j (λy2:(List UInt8)×Ab=>y2.1.length≤a0.length∧wt y2.2≤200) (λy2 wW=> .j0 (.m (pA ?_) (.c (λh1=> .kt (.s ⟨?_,?_⟩))
  λh1=>have:=rD (nf h1); .b (zeO ?_) λr30 C0=> .m (pA ?_) (.c (λh2=> .s ⟨?_,?_⟩)
  λh2=> .s ⟨?_,?_⟩))))
  λk3 LV=> .c (λh3=> .b (WL ?_ ?_) λr4 WV=> .b (xH ?_ ?_) λr5 TV=>LV _ ⟨?_,?_⟩)
  λh3=> .j0 (.c (λh4=> .j0 (.kt (.j (λy10:(List UInt8)×Ab=>y10.1.length≤a0.length∧wt y10.2≤0) (λy10 VW=> .b (xH ?_ ?_) λr13 iX=> .b (xH ?_ ?_) λr14 qX=> .b (WL ?_ ?_) λr15 SW=> .b (xH ?_ ?_) λr16 fX=> .j0 (.c (λh5=> .b (xH ?_ ?_) λr19 HX=>LV _ ⟨?_,?_⟩)
  λh5=>LV _ ⟨?_,?_⟩))
  λk11 QV=> .c (λh6=> .b (WL ?_ ?_) λr12 BW=>QV _ ⟨?_,?_⟩)
  λh6=>QV _ ⟨?_,?_⟩)))
  λh4=> .j0 (.c (λh7=> .j (λy10:(List UInt8)×Ab=>y10.1.length≤a0.length∧wt y10.2≤0) (λy10 VW=> .b (xH ?_ ?_) λr13 iX=> .b (xH ?_ ?_) λr14 qX=> .b (WL ?_ ?_) λr15 SW=> .b (xH ?_ ?_) λr16 fX=> .j0 (.c (λh8=> .b (xH ?_ ?_) λr19 HX=>LV _ ⟨?_,?_⟩)
  λh8=>LV _ ⟨?_,?_⟩))
  λk11 QV=> .c (λh9=> .b (WL ?_ ?_) λr12 BW=>QV _ ⟨?_,?_⟩)
  λh9=>QV _ ⟨?_,?_⟩)
  λh7=> .j0 (.c (λvW=> .b (xH ?_ ?_) λr22 jX=> .b (WL ?_ ?_) λr23 gZ=> .b (WL ?_ ?_) λr24 yX=> .b (xH ?_ ?_) λr25 zX=> .b (xH ?_ ?_) λr26 KX=>LV _ ⟨?_,?_⟩)
  λvW=>LV _ ⟨?_,?_⟩)))
 all_goals first | trivial | ((try simp only[NB]at *)<;>omega) | grind [eA,oA]
def zjI{a0 a1}(ha:wt a0≤1000000):Ok (Dc a0 a1) λr=>True:=by
 unfold Dc;refine have hw:=tB a0.L;
 .j0 (.l (λx3:Int=>0≤x3∧x3≤(a0.L.length:Int)) (λx3:Int=>((a0.L.length:Int) - x3).toNat) (λx3 BY k4 UV=> .c (λh1=> .bi ?_ ?_ λe5 EX xX=> .j0 (.c (λh2=> .c (λh3=> .s ?_)
  λh3=>UV _ ?_ ?_)
  λh2=> .kf (UV _ ?_ ?_)))
  λh1=> .s ?_) ?_ ?_)
 all_goals first | trivial | ((try simp only[NB]at *)<;>(try simp(disch:=omega) only[AA,IA]at *)<;>omega) | grind [eA,oA]
def ziE{a0 a1}(ha:wt a0≤1000000):Ok (By a0 a1) λr=>iD a0=true→0≤oB a0 a1→∀e,a0[(oB a0 a1).toNat]?=some e→r=3 *e.Got - e.Sent:=by
 unfold By;refine have hw:=tB a0;have:=jT a0 a1;
 .j0 (.c (λh1=> .kt (.s ?_))
  λh1=>have:=NI (nf h1); .c (λh2=> .s ?_)
  λh2=> .bi ?_ ?_ λe3 d5 Y2=>have hg:=λh=>@zg4 a0 _ e3 h d5;have:=@zhi e3.Got;have:=@IA (3 *e3.Got) e3.Sent; .bi ?_ ?_ λe4 yZ YY=>match(Option.some.inj (d5.symm.trans yZ):e3=e4)with | rfl=>(.s ?_))
 all_goals first | trivial | ((try simp only[NB]at *)<;>(try simp(disch:=omega) only[AA,IA]at *)<;>omega) | grind [eA,oA]
def ziU{a0 a1 a2}(ha:wt a0≤10000):Ok (Fy a0 a1 a2) λr=>True:=by
 unfold Fy
 refine .j0 (.b (zjI ?_) λr3 _=> .c (λh1=> .s ?_)
  λh1=> .b (ziE ?_) λr4 WV=> .s ?_)
 all_goals first | trivial | ((try simp only[NB]at *)<;>omega) | grind [eA,oA]
def zqi{a0 a1}(ha:wt a0≤1000000000):Ok (Hz a0 a1) λr=>r.length≤a0.length+12:=by
 unfold Hz
 refine .c (λh1=> .m (pA ?_) (.s ?_))
  λh1=>have:=EF (nf h1); .m (pA ?_) (have:=OG a0 a1.Host 4; .m (pA ?_) (have:=OG (CD a0 a1.Host 4) a1.Port 2; .s ?_))
 all_goals first | trivial | ((try simp only[NB]at *)<;>omega) | grind [eA,oA]
def zeS{a0 a1 a2 a3 a4}(ha:wt a2≤1000000000)(hb:wt a3≤1000000000):Ok (Et a0 a1 a2 a3 a4) λr=>r.length≤60:=by
 unfold Et
 refine .j0 (.c (λh1=> .kt (.s ?_))
  λh1=>have:=EF (nf h1); .c (λh2=> .kt (.s ?_))
  λh2=> .c (λh3=> .kt (.s ?_))
  λh3=>have:=cK (nf h3); .c (λh4=> .kt (.s ?_))
  λh4=>have:=cK (nf h4); .c (λh5=> .s ?_)
  λh5=> .b (zqi ?_) λr3 pW=> .m (pA ?_) (have:=OG [] a4 4; .m (pA ?_) (have:=qI ([r3,[UInt8.ofNat (IntKind.wrap .u8 a1:Int).toNat],a2,a3,(CD [] a4 4)]:List (List UInt8)); .s ?_)))
 all_goals first | trivial | ((try simp only[NB]at *)<;>omega) | grind [eA,oA]
def zjJ{a0 a1 a2 a3 a4 a5}(ha:wt a3≤1000000000)(hb:wt a4≤1000000000):Ok (Fz a0 a1 a2 a3 a4 a5) λr=>r.length≤16:=by
 unfold Fz
 refine .b (zeS ?_ ?_) λr1 PV=> .j0 (.c (λh1=> .kt (.s ?_))
  λh1=>have:=zdp (nf h1); .c (λh2=> .s ?_)
  λh2=> .b eV λr4 WV=> .s ?_)
 all_goals first | trivial | ((try simp only[NB]at *)<;>omega) | grind [eA,oA]
def zrF{a0 a1}:Ok (Cw a0 a1) λr=>True:=by
 unfold Cw
 refine .j0 (.c (λh1=> .c (λh2=> .s ?_)
  λh2=> .s ?_)
  λh1=> .s ?_)
 all_goals first | trivial | ((try simp only[NB]at *)<;>(try simp(disch:=omega) only[AA,IA]at *)<;>omega) | grind [eA,oA]
def zjH{a0 a1}(ha:wt a0≤1000000000)(hb:wt a1≤1000000000):Ok (Bq a0 a1) λr=>True:=by
 unfold Bq
 refine .c (λh1=> .s ?_)
  λh1=> .j0 (.l (λx3:Int×Int=>0≤x3.2∧x3.2≤(a0.length:Int)) (λx3:Int×Int=>((a0.length:Int) - x3.2).toNat) (λx3 BY k4 UV=> .c (λh2=> .bi ?_ ?_ λe5 EX xX=> .bi ?_ ?_ λe6 CY wX=>UV _ ?_ ?_)
  λh2=> .s ?_) ?_ ?_)
 all_goals first | trivial | ((try simp only[NB]at *)<;>(try simp(disch:=omega) only[AA,IA]at *)<;>omega) | grind [eA,oA]
def zeZ{a0 a1}(ha:wt a0≤1000000000)(hb:wt a1≤1000000000):Ok (Bm a0 a1) λr=>True:=by
 unfold Bm
 refine .j0 (.c (λh1=> .b (zjH ?_ ?_) λr3 _=> .s ?_)
  λh1=> .s ?_)
 all_goals first | trivial | ((try simp only[NB]at *)<;>omega) | grind [eA,oA]
def zrm{a0 a1 a2 a3}(ha:wt a3≤1000):Ok (Ia a0 a1 a2 a3) λr=>r=0→a3.Kind=3∧AB a3=true:=by
 unfold Ia
 refine .j0 (.c (λh1=> .kt (.s ?_))
  λh1=>have:=zdp (nf h1); .c (λh2=> .kt (.s ?_))
  λh2=> .c (λh3=> .kt (.s ?_))
  λh3=>have:=EF (nf h3); .c (λh4=> .kt (.s ?_))
  λh4=> .m (pA ?_) (.c (λh5=> .s ?_)
  λh5=>have:=rD (nf h5); .b zrF λr4 _=> .c (λh6=> .s ?_)
  λh6=> .b (zjJ ?_ ?_) λr5 TV=> .b (zeZ ?_ ?_) λr6 _=> .c (λh7=> .s ?_)
  λh7=> .s ?_))
 all_goals first | trivial | ((try simp only[NB]at *)<;>omega) | grind [eA,oA]
def ziC{a0 a1}:Ok (Bz a0 a1) λr=>r=XC a0 a1:=by
 unfold Bz;refine have:=mL a0 a1;
 .s ?_
 all_goals first | trivial | ((try simp only[NB]at *)<;>omega) | grind [eA,oA]
def zeI{a0}:Ok (Bh a0) λr=>r.length=32∨r.length=0:=by
 unfold Bh
 refine .c (λh1=> .s ?_)
  λh1=>have:=oL (nf h1); .b ziC λr2 dW=>have:=zmH [UInt8.ofNat (114:Int).toNat,UInt8.ofNat (111:Int).toNat,UInt8.ofNat (97:Int).toNat,UInt8.ofNat (109:Int).toNat] a0; .m (pA ?_) (have:=AM r2 [102,105,110,105,115,104];have:=@DM r2 [102,105,110,105,115,104]; .s ?_)
 all_goals first | trivial | ((try simp only[NB]at *)<;>omega) | grind [eA,oA]
def zeL{a0 a1 a2 a3 a4}(ha:wt a1≤1000000000)(hb:wt a2≤1000000000)(hc:wt a4≤1000000000):Ok (Dd a0 a1 a2 a3 a4) λr=>r.length≤60:=by
 unfold Dd
 refine .j0 (.c (λh1=> .kt (.s ?_))
  λh1=> .c (λh2=> .kt (.s ?_))
  λh2=>have:=cK (nf h2); .c (λh3=> .kt (.s ?_))
  λh3=>have:=cK (nf h3); .c (λh4=> .kt (.s ?_))
  λh4=> .c (λh5=> .s ?_)
  λh5=> .m (pA ?_) (have:=OG [] a3 4; .m (pA ?_) (have:=qI [([UInt8.ofNat (102:Int).toNat,UInt8.ofNat (IntKind.wrap .u8 a0:Int).toNat]:List UInt8),a1,a2,(CD [] a3 4),a4]; .s ?_)))
 all_goals first | trivial | ((try simp only[NB]at *)<;>omega) | grind [eA,oA]
def zje{a0 a1 a2 a3 a4 a5}(ha:wt a2≤1000000000)(hb:wt a3≤1000000000)(hc:wt a5≤1000000000):Ok (Ds a0 a1 a2 a3 a4 a5) λr=>r.length=0∨r.length=16:=by
 unfold Ds
 refine .b zeI λr1 PV=> .b (zeL ?_ ?_ ?_) λr2 dW=>have:=@JH r1 r2; .j0 (.c (λh1=> .kt (.s ?_))
  λh1=> .c (λh2=> .s ?_)
  λh2=> .b eV λr5 TV=> .s ?_)
 all_goals first | trivial | ((try simp only[NB]at *)<;>omega) | grind [eA,oA]
def zp6{a0 a1}(ha:wt a1≤1000):Ok (Ib a0 a1) λr=>True:=by
 unfold Ib
 refine .j0 (.c (λh1=> .m (pA ?_) (.c (λh2=>have:=rD h2; .b (zje ?_ ?_ ?_) λr4 WV=> .b (zeZ ?_ ?_) λr5 _=> .s ?_)
  λh2=> .s ?_))
  λh1=> .s ?_)
 all_goals first | trivial | ((try simp only[NB]at *)<;>omega) | grind [eA,oA]
def zpH{a0}:Ok (Cj a0) λr=>r=⟨a0,[]⟩:=by
 unfold Cj;refine .s ?_
 all_goals first | trivial | ((try simp only[NB]at *)<;>omega) | grind [eA,oA]
def zqf{a0 a1 a2}(ha:AC a0=true)(hb:a1.length=12)(hc:a2.length=12):Ok (Ic a0 a1 a2) λr=>r.length=32:=by
 unfold Ic;refine have:=oL ha;have hm:=@JH (List.flatten [a1,a2]) a0;
 .j0 (.c (λh1=> .kt (.s ?_))
  λh1=>have:=oL (nf h1); .c (λh2=> .kt (.s ?_))
  λh2=>have:=cK (nf h2); .c (λh3=> .s ?_)
  λh3=>have:=cK (nf h3); .m (pA ?_) (have:=qI [a1,a2]; .b ziC λr4 WV=> .s ?_))
 all_goals first | trivial | ((try simp only[NB]at *)<;>omega) | grind [eA,oA]
def zpD{a0}:Ok (Cy a0) λr=>a0.length=32→r.length=32:=by
 unfold Cy
 refine .c (λh1=> .s ?_)
  λh1=> .m (pA ?_) (have:=AM a0 [101,112,111,99,104];have:=@DM a0 [101,112,111,99,104]; .s ?_)
 all_goals first | trivial | ((try simp only[NB]at *)<;>omega) | grind [eA,oA]
def zrI{a0 a1}(ha:a0.length≤100):Ok (Ie a0 a1) λr=>a1=0→r=a0:=by
 unfold Ie
 refine .c (λh1=> .s ?_)
  λh1=> .m (pA ?_) (.j (λy2:(List UInt8)=>y2.length≤200∧(a1=0→y2=a0)) (λy2 wW=> .s ?_)
  λk3 LV=> .l (λx4:(List UInt8)×Int=>(0≤x4.2∧x4.2≤64)∧x4.1.length≤200∧(a1=0→x4.1=a0)) (λx4:(List UInt8)×Int=>(64 - x4.2).toNat) (λx4 bZ k5 iW=> .c (λh2=> .m (pA ?_) (have:=AM x4.1 [114,101,107,101,121];have:=@DM x4.1 [114,101,107,101,121];iW _ ⟨?_,?_,?_⟩ ?_))
  λh2=>LV _ ⟨?_,?_⟩) ⟨?_,?_,?_⟩ ?_)
 all_goals first | trivial | ((try simp only[NB]at *)<;>(try simp(disch:=omega) only[AA,IA]at *)<;>omega) | grind [eA,oA]
def zir{a0 a1 a2 a3}(ha:AC a0=true)(hb:a1.length=12)(hc:a2.length=12):Ok (Ga a0 a1 a2 a3) λr=>a3=0→r.length=32:=by
 unfold Ga
 refine .b (zqf ?_ ?_ ?_) λr1 PV=> .b zpD λr2 dW=> .c (λh1=> .s ?_)
  λh1=> .b (zrI ?_) λr3 pW=> .s ?_
 all_goals first | trivial | ((try simp only[NB]at *)<;>omega) | grind [eA,oA]
def zff{a0 a1}(ha:0≤a0∧a0≤4294967295)(hb:a1.length=32):Ok (De a0 a1) λr=>YC r=true∧(r.N=a0∧r.Key=a1∧r.Seq=0):=by
 unfold De
 refine .j0 (.c (λh1=> .kt (.s ⟨?_,?_⟩))
  λh1=> .c (λh2=> .s ⟨?_,?_⟩)
  λh2=> .m (pA ?_) (.b zre λr4 WV=> .s ⟨?_,?_⟩))
 all_goals first | trivial | ((try simp only[NB]at *)<;>omega) | grind [eA,oA,YC]
def zix{a0 a1 a2}(ha:a0=0∨a0=1)(hb:a1.length=12)(hc:a2.length=32):Ok (Gb a0 a1 a2) λr=>kC r=true∧(r.Role=a0∧r.Sn=a1∧r.Cur.N=0∧r.HasOld=false∧r.Next=[]):=by
 unfold Gb
 refine .j0 (.c (λh1=> .kt (.s ⟨?_,?_⟩))
  λh1=> .c (λh2=> .kt (.s ⟨?_,?_⟩))
  λh2=>have:=cK (nf h2); .c (λh3=> .s ⟨?_,?_⟩)
  λh3=> .m (pA ?_) (.b (zff ?_ ?_) λr4 WV=> .s ⟨?_,?_⟩))
 all_goals first | trivial | ((try simp only[NB]at *)<;>omega) | grind [eA,oA,kC,SG,VF,PA]
def zp9{a0 a1 a2 a3}(ha:AC a0=true)(hb:eA a1 0 1000000=true)(hc:GA a2=true)(hd:AB a3=true)(he:a3.Kind=3):Ok (Eu a0 a1 a2 a3) λr=>vC r=true∧(r.Id=a3.Id∧r.Sn=a3.Sn∧r.Cn=a3.Cn∧r.Dead=false):=by
 unfold Eu;refine have:=rD hd;have:=zmm hd he;have:=@zuf a2 hc;
 .j0 (.c (λh1=> .kt (.s ⟨?_,?_⟩))
  λh1=>have:=oL (nf h1); .c (λh2=> .kt (.s ⟨?_,?_⟩))
  λh2=> .c (λh3=> .kt (.s ⟨?_,?_⟩))
  λh3=>have:=EF (nf h3); .c (λh4=> .kt (.s ⟨?_,?_⟩))
  λh4=> .m (pA ?_) (.c (λh5=> .s ⟨?_,?_⟩)
  λh5=>have:=rD (nf h5); .m (pA ?_) (.m (pA ?_) (.b zpH λr6 xW=> .b (zir ?_ ?_ ?_) λr7 MW=> .b (zix ?_ ?_ ?_) λr8 zW=> .s ⟨?_,?_⟩))))
 all_goals first | trivial | ((try simp only[NB]at *)<;>omega) | grind [eA,oA,vC]
def ziK{a0 a1}(ha:QC a0=true)(hb:wt a1≤400):Ok (Bi a0 a1) λr=>QC r.1=true∧(∀e∈r.1.L,e∈a0.L∨e=a1)∧(r.2=0→0≤OE r.1 a1.Sn):=by
 unfold Bi;refine have:=tL ha;have:=@zuG a0.Cap a0.L a1;
 .m (pA ?_) (.j0 (.m (pA ?_) (.c (λh1=> .kt (.s ⟨?_,?_,?_⟩))
  λh1=>have:=tL (nf h1); .m (pA ?_) (.c (λh2=> .kt (.s ⟨?_,?_,?_⟩))
  λh2=>have:=gL (nf h2); .c (λh3=> .s ⟨?_,?_,?_⟩)
  λh3=> .m (pA ?_) (have:=bO a0 a1.Sn; .c (λh4=> .s ⟨?_,?_,?_⟩)
  λh4=> .j0 (.m (pA ?_) (.c (λh5=> .kt (.s ⟨?_,?_,?_⟩))
  λh5=> .c (λh6=> .s ⟨?_,?_,?_⟩)
  λh6=> .m (pA ?_) (.g ?_ (.s ⟨?_,?_,?_⟩)))))))))
 all_goals first | trivial | ((try simp only[NB]at *)<;>omega) | grind [eA,oA,zvF]
def zbY{a0 a1 a2}(ha:a0.length=32∨a0.length=0)(hb:a1.length=12∨a1.length=0)(hc:a2.length≤100):Ok (Dt a0 a1 a2) λr=>jC r=true:=by
 unfold Dt;refine .m (pA ?_) (.m (pA ?_) (.m (pA ?_) (.s ?_)))
 all_goals first | trivial | ((try simp only[NB]at *)<;>omega) | grind [eA,oA,jC,UC,SD,GA,sD,CC,wE]
def zkm{a0}(ha:kC a0=true):Ok (Gc a0) λr=>kC r.1=true∧(r.1.Role=a0.Role∧r.1.Sn=a0.Sn∧r.1.Next=a0.Next∧r.1.Cur.N=a0.Cur.N∧r.1.HasOld=a0.HasOld)∧wt r.2.1≤300∧tH r.2.1 a0.Sn:=by
 unfold Gc;refine have:=VC ha;
 .j0 (.m (pA ?_) (.c (λh1=> .kt (.m (pA ?_) (.s ⟨?_,?_,?_,?_⟩)))
  λh1=>have:=VC (nf h1); .c (λh2=> .m (pA ?_) (.s ⟨?_,?_,?_,?_⟩))
  λh2=> .b zeK λr5 TV=> .b (kP ?_ ?_) λr6 xW=> .s ⟨?_,?_,?_,?_⟩))
 all_goals first | trivial | ((try simp only[NB]at *)<;>omega) | grind [eA,oA,tH]
def ziH{a0}(ha:vC a0=true):Ok (Ev a0) λr=>WE a0 r.1∧HE r.2.1∧(r.2.1.length≤1∧wt r.2.1≤400)∧dC r.2.2∧r.2.2.length≤1:=by
 unfold Ev;refine have:=jF ha;have hl:=@ZM a0 ha;have:=eO ha;
 .m (pA ?_) (.j0 (.m (pA ?_) (.c (λh1=> .kt (.s ⟨?_,?_,?_,?_,?_⟩))
  λh1=>have:=gL (nf h1); .c (λh2=> .kt (.s ⟨?_,?_,?_,?_,?_⟩))
  λh2=> .c (λh3=> .s ⟨?_,?_,?_,?_,?_⟩)
  λh3=> .b (zkm ?_) λr5 TV=> .c (λh4=> .s ⟨?_,?_,?_,?_,?_⟩)
  λh4=> .b (ZL ?_ ?_) λr6 xW=> .s ⟨?_,?_,?_,?_,?_⟩)))
 all_goals first | trivial | ((try simp only[NB]at *)<;>omega) | grind [eA,oA,PM,sO,fH,sD,CC]
def zaQ{a0 a1 a2}(ha:QC a0=true)(hb:wt a2≤400):Ok (Bu a0 a1 a2) λr=>QC r.1=true∧(∀e∈r.1.L,e∈a0.L∨e=a2)∧r.1.L.length=a0.L.length:=by
 unfold Bu;refine have:=tL ha;
 .m (pA ?_) (.j0 (.m (pA ?_) (.c (λh1=> .kt (.s ⟨?_,?_,?_⟩))
  λh1=>have:=tL (nf h1); .c (λh2=> .kt (.s ⟨?_,?_,?_⟩))
  λh2=> .c (λh3=> .s ⟨?_,?_,?_⟩)
  λh3=> .m (pA ?_) (.h ?_ (.bg ?_ λe6 CY wX=> .m (pA (have:=BC a0.L a1.toNat a2;?_)) (.c (λh4=> .m (pA ?_) (.s ⟨?_,?_,?_⟩))
  λh4=>have:=tL (nf h4); .s (have:=BC a0.L a1.toNat a2;⟨?_,?_,?_⟩)))))))
 all_goals first | trivial | ((try simp only[NB]at *)<;>omega) | grind [eA,oA,zgr]
def zpU{a0 a1 a2 a3}(ha:LB a0=true)(hb:eA a1 0 1000000=true)(hc:GA a2=true)(hd:AB a3=true):Ok (Ku a0 a1 a2 a3) λr=>LB r.1=true∧r.1.Psks=a0.Psks∧HE r.2.1∧(r.2.1.length≤2∧wt r.2.1≤1000)∧dC r.2.2∧r.2.2.length≤8:=by
 unfold Ku;refine have:=zF ha;have hs:=YE.1 ha;have:=hs.jar;have:=hs.dice;have:=rD hd;
 .j0 (.c (λh1=> .kt (.s ⟨?_,?_,?_,?_,?_,?_⟩))
  λh1=> .b (ziU ?_) λr3 _=> .c (λh2=> .kt (.s ⟨?_,?_,?_,?_,?_,?_⟩))
  λh2=> .c (λh3=> .s ⟨?_,?_,?_,?_,?_,?_⟩)
  λh3=> .m (pA ?_) (have:=mJ a0.D; .b (zjJ ?_ ?_) λr5 TV=> .m (pA ?_) (.m (pA ?_) (.b (zeS ?_ ?_) λr8 zW=> .b (zfl ?_ ?_) λr9 UW=> .m (pA ?_) (have:=zcM (MC a0.D).2;have:=@zb6 (MC a0.D).2; .s ⟨?_,?_,?_,?_,?_,?_⟩)))))
 all_goals first | trivial | ((try simp only[NB]at *)<;>omega) | grind [eA,oA,LB,PE,sO,fH,KE,jC,UC,SD,GA,sD,CC,wE]
def zoQ{a0 a1 a2 a3}(ha:LB a0=true)(hb:eA a1 0 1000000=true)(hc:GA a2=true)(hd:AB a3=true):Ok (Kw a0 a1 a2 a3) λr=>LB r.1=true∧r.1.Psks=a0.Psks∧HE r.2.1∧(r.2.1.length≤2∧wt r.2.1≤1000)∧dC r.2.2∧r.2.2.length≤8:=by
 unfold Kw;refine have:=zF ha;have hs:=YE.1 ha;have:=hs.jar;have:=hs.tab;have:=rD hd;have hf3:=@zmm a3 hd;have hw:=tB a0.T.L;have hp:=tB a0.Psks;
 .j0 (.b (zrm ?_) λr3 pW=> .c (λh1=> .kt (.s ⟨?_,?_,?_,?_,?_,?_⟩))
  λh1=> .c (λh2=> .kt (.s ⟨?_,?_,?_,?_,?_,?_⟩))
  λh2=> .bm ?_ ?_ λe4 yZ YY=>have:=hs.psk e4 yZ; .b (zp6 ?_) λr5 _=> .c (λh3=> .s ⟨?_,?_,?_,?_,?_,?_⟩)
  λh3=> .m (pA ?_) (have:=bO a0.T a3.Sn; .j (λy7:(List Ae)×Ac×Ac=>dC y7.1∧y7.1.length≤3∧LB y7.2.2=true∧y7.2.2.Psks=a0.Psks∧0≤OE y7.2.2.T a3.Sn) (λy7 DY=>have⟨hn7,hm7,hs7,hp7,hf7⟩:=DY;have:=zF hs7;have S:=YE.1 hs7;have:=S.tab;have:=BE hn7; .m (pA ?_) (have:=bO y7.2.2.T a3.Sn; .bm ?_ ?_ λe22 CZ R1=>have K0:=(aF.1 S.tab).el _ CZ;have:=jF K0; .j0 (.c (λh4=> .kt (.s ⟨?_,?_,?_,?_,?_,?_⟩))
  λh4=> .c (λh5=> .kt (.s ⟨?_,?_,?_,?_,?_,?_⟩))
  λh5=> .m (pA ?_) (.c (λh6=> .s ⟨?_,?_,?_,?_,?_,?_⟩)
  λh6=> .b (ziH ?_) λr26 KX=>have:=jF KX.1.1;have:=BE KX.2.2.2.1; .b (zaQ ?_ ?_) λr27 xY=>have Z3:=xJ (d:=⟨y7.2.2.Psks,y7.2.2.J,y7.2.2.D,r27.1,y7.2.2.Cr⟩) hs7 rfl S.jar S.dice xY.1 S.cr (λe he=>(xY.2.1 e he).elim (S.id e) λh=>by rw[h,KX.1.2.1];exact S.id _ CZ);have bX:=wE.2 ⟨hn7,KX.2.2.2.1⟩; .g ?_ (.s ⟨?_,?_,?_,?_,?_,?_⟩)))))
  λk8 uW=> .c (λh7=> .bm ?_ ?_ λe9 QZ HY=>have hpk:=hs.psk e9 QZ; .b (zp9 ?_ ?_ ?_ ?_ ?_) λr10 sW=>have:=jF sW.1;have i9:=VC (ZM sW.1 sW.2.2.2.2).1; .b (ziK ?_ ?_) λr11 AW=>have Z3:=xJ (d:=⟨a0.Psks,a0.J,a0.D,r11.1,a0.Cr⟩) ha rfl hs.jar hs.dice AW.1 hs.cr (λe he=>(AW.2.1 e he).elim (hs.id e) λh=>by rw[h,sW.2.1];simp at h2;omega); .c (λh8=> .s ⟨?_,?_,?_,?_,?_,?_⟩)
  λh8=> .b (zeS ?_ ?_) λr12 BW=> .b (zbY ?_ ?_ ?_) λr13 iX=> .b zeI λr14 qX=> .b (zeL ?_ ?_ ?_) λr15 SW=> .b (zbY ?_ ?_ ?_) λr16 fX=>have bX:dC [r13,r16,(⟨4,a3.Id,0,a3.Cn,a3.Sn,0,0,[],r10.C.Cur.Key,a2,a1⟩:Ae)]:=sD.2 ⟨iX,sD.2 ⟨fX,sD.2 ⟨by grind [jC,UC,SD,eA],CC⟩⟩⟩;have:=BE bX; .m (pA ?_) (.m (pA ?_) (.m (pA ?_) (.g ?_ (uW _ ⟨?_,?_,?_,?_,?_⟩)))))
  λh7=>uW _ ⟨?_,?_,?_,?_,?_⟩))
 all_goals first | trivial | assumption | exact fH | exact CC | exact bX | ((try simp only[NB]at *)<;>(try simp(disch:=omega) only[AA,IA]at *)<;>omega) | grind [eA,oA,sO,fH,zgJ,jC,UC,SD,GA,sD,CC,wE]
end Go.D
namespace Go.D
def zq5{a0 a1 a2}(ha:wt a0≤1000000000)(hb:wt a2≤1000000000):Ok (If a0 a1 a2) λr=>r.1.length≤a2.Body.length:=by
 unfold If
 refine .b (mP ?_) λr1 PV=> .j0 (.c (λh1=> .kt (.s ?_))
  λh1=> .c (λh2=> .kt (.s ?_))
  λh2=> .b eV λr4 WV=> .b (zeZ ?_ ?_) λr5 _=> .c (λh3=> .s ?_)
  λh3=> .b (ze5 ?_) λr6 xW=> .b (zfG ?_ ?_) λr7 MW=> .s ?_)
 all_goals first | trivial | ((try simp only[NB]at *)<;>omega) | grind [eA,oA]
def zqs{a0 a1 a2}(ha:YC a0=true)(hb:wt a2≤1000):Ok (Ew a0 a1 a2) λr=>YC r.1=true∧(r.1.N=a0.N∧r.1.Key=a0.Key∧r.1.Seq=a0.Seq)∧r.2.1.length≤a2.Body.length:=by
 unfold Ew;refine have:=epF ha;
 .m (pA ?_) (.j0 (.c (λh1=> .kt (.s ⟨?_,?_,?_⟩))
  λh1=>have:=epF (nf h1); .b (mP ?_) λr4 WV=> .c (λh2=> .kt (.s ⟨?_,?_,?_⟩))
  λh2=> .c (λh3=> .s ⟨?_,?_,?_⟩)
  λh3=> .b (ze9 ?_) λr5 TV=> .c (λh4=> .s ⟨?_,?_,?_⟩)
  λh4=> .b (zq5 ?_ ?_) λr6 xW=> .c (λh5=> .s ⟨?_,?_,?_⟩)
  λh5=> .s ⟨?_,?_,?_⟩))
 all_goals first | trivial | ((try simp only[NB]at *)<;>omega) | grind [eA,oA,YC]
def zie{a0 a1 a2}(ha:kC a0=true)(hb:wt a2≤1000):Ok (Dg a0 a1 a2) λr=>kC r.1=true∧(r.1.Role=a0.Role∧r.1.Sn=a0.Sn)∧(r.1.Next=a0.Next∧r.1.Cur.N=a0.Cur.N∨r.1.Next=[]∧r.1.Cur.N≠a0.Cur.N)∧r.2.1.length≤a2.Body.length∧(r.2.2=0→AB a2=true∧fC a2.Kind=true∧eA a1 0 1000000=true):=by
 unfold Dg;refine have:=VC ha;have i1:=@AA a0.Cur.N 1;have i2:=@IA a0.Cur.N 1;have i3:=@AA a1 5;
 .m (pA ?_) (.j0 (.m (pA ?_) (.c (λh1=> .kt (.s ⟨?_,?_,?_,?_,?_⟩))
  λh1=>have:=VC (nf h1); .c (λh2=> .kt (.s ⟨?_,?_,?_,?_,?_⟩))
  λh2=> .c (λh3=> .kt (.s ⟨?_,?_,?_,?_,?_⟩))
  λh3=> .m (pA ?_) (.c (λh4=> .s ⟨?_,?_,?_,?_,?_⟩)
  λh4=>have:=rD (nf h4); .j (λy6:Bool=>y6=true→a0.HasOld=true∧a2.Epoch=a0.Old.N) (λy6 AX=> .j (λy8:Bool=>y8=true→a0.Next.length>0∧a2.Epoch=iA .i64 a0.Cur.N 1) (λy8 o7=> .j (λy10:Bool=>y10=false→(a2.Epoch=a0.Cur.N∨y6=true∨y8=true)) (λy10 VW=> .c (λh5=> .s ⟨?_,?_,?_,?_,?_⟩)
  λh5=> .jt (λy13=> .c (λh6=> .s ⟨?_,?_,?_,?_,?_⟩)
  λh6=> .j (λy15:Ax=>YC y15=true∧(y6=true∧y15=a0.Old∨y6=false∧y15=a0.Cur)) (λy15 B0=> .j (λy17:Ax=>YC y17=true∧(y8=true∧y17.N=a0.Cur.N+1∨y8=false∧(y6=true∧y17=a0.Old∨y6=false∧y17=a0.Cur))) (λy17 iZ=> .b (zqs ?_ ?_) λr20 IY=>have i4:=@IA r20.1.N 1; .c (λh7=> .s ⟨?_,?_,?_,?_,?_⟩)
  λh7=> .j (λy21:Ak=>kC y21=true∧(y21.Role=a0.Role∧y21.Sn=a0.Sn)∧(y21.Next=a0.Next∧y21.Cur.N=a0.Cur.N∨y21.Next=[]∧y21.Cur.N≠a0.Cur.N)) (λy21 D1=> .s ⟨?_,?_,?_,?_,?_⟩)
  λk22 XW=> .c (λh8=> .j0 (.c (λh9=> .j0 (.c (λvW=>XW _ ⟨?_,?_,?_⟩)
  λvW=>XW _ ⟨?_,?_,?_⟩))
  λh9=> .j0 (.kf (XW _ ⟨?_,?_,?_⟩))))
  λh8=> .j0 (.c (λLW=>XW _ ⟨?_,?_,?_⟩)
  λLW=>XW _ ⟨?_,?_,?_⟩))
  λk18 IW=> .c (λZW=> .b (zff ?_ ?_) λr19 HX=>IW _ ⟨?_,?_⟩)
  λZW=>IW _ ⟨?_,?_⟩)
  λk16 KW=> .c (λrX=>KW _ ⟨?_,?_⟩)
  λrX=>KW _ ⟨?_,?_⟩)
  λk14 RV=> .c (λLY=> .c (λMY=>RV _)
  λMY=>RV _)
  λLY=>RV _)
  λk11 QV=> .b (zjH ?_ ?_) λr12 _=> .c (λRY=>QV _ ?_)
  λRY=> .c (λDZ=> .c (λS1=>QV _ ?_)
  λS1=>QV _ ?_)
  λDZ=>QV _ ?_)
  λk9 nX=> .c (λTZ=>nX _ ?_)
  λTZ=>nX _ ?_)
  λk7 VV=> .c (λUZ=>VV _ ?_)
  λUZ=>VV _ ?_))))
 all_goals first | trivial | ((try simp only[NB]at *)<;>(try simp(disch:=omega) only[AA,IA]at *)<;>omega) | grind [eA,oA,kC,SG]
def zi6{a0 a1}(ha:kC a0=true):Ok (Gd a0 a1) λr=>r.1.length=0∨r.1.length=32:=by
 unfold Gd;refine have:=VC ha;
 .m (pA ?_) (.c (λh1=> .s ?_)
  λh1=>have:=VC (nf h1); .j (λy2:Bool=>y2=true→a0.HasOld=true) (λy2 wW=> .c (λh2=> .m (pA ?_) (.s ?_))
  λh2=> .c (λh3=> .m (pA ?_) (.s ?_))
  λh3=> .j0 (.c (λh4=> .c (λh5=> .m (pA ?_) (.s ?_))
  λh5=> .s ?_)
  λh4=> .kf (.s ?_)))
  λk3 LV=> .c (λh6=>LV _ ?_)
  λh6=>LV _ ?_)
 all_goals first | trivial | ((try simp only[NB]at *)<;>(try simp(disch:=omega) only[AA,IA]at *)<;>omega) | grind [eA,oA,kC,YC,SG]
def zra{a0 a1 a2 a3}(ha:sC a0=true)(hb:wt a3≤1000):Ok (Ge a0 a1 a2 a3) λr=>sC r.1=true:=by
 unfold Ge;refine have:=hI ha;have hw:=tB a0.Cands;
 .m (pA ?_) (.m (pA ?_) (have:=zkW a0 a2; .j0 (.c (λh1=> .kt (.s ?_))
  λh1=>have:=hI (nf h1); .c (λh2=> .kt (.s ?_))
  λh2=> .c (λh3=> .kt (.s ?_))
  λh3=> .bm ?_ ?_ λe5 EX xX=> .m (pA ?_) (.c (λh4=> .kt (.s ?_))
  λh4=> .bm ?_ ?_ λe7 RZ sY=> .c (λh5=> .s ?_)
  λh5=> .h ?_ (.h ?_ (.g (have:=WD a0.Cands (((DE a0 a2) - 0).toNat);have:=WD (List.drop ((iA .i64 (DE a0 a2) 1).toNat) a0.Cands) (((a0.Cands.length:Int) - (iA .i64 (DE a0 a2) 1)).toNat);have:=rF a0.Cands ((iA .i64 (DE a0 a2) 1).toNat);?_) (.s (have:=WD a0.Cands (((DE a0 a2) - 0).toNat);have:=WD (List.drop ((iA .i64 (DE a0 a2) 1).toNat) a0.Cands) (((a0.Cands.length:Int) - (iA .i64 (DE a0 a2) 1)).toNat);have:=rF a0.Cands ((iA .i64 (DE a0 a2) 1).toNat);?_))))))))
 all_goals first | trivial | exact zsz ha (by simp at h3;omega) | ((try simp only[NB]at *)<;>(try simp(disch:=omega) only[AA,IA]at *)<;>omega) | grind [eA,oA]
def zsw{a0}(ha:kC a0=true):Ok (Ig a0) λr=>kC r.1=true∧(r.1.Role=a0.Role∧r.1.Sn=a0.Sn):=by
 unfold Ig;refine have:=VC ha;
 .m (pA ?_) (.j0 (.m (pA ?_) (.c (λh1=> .kt (.s ⟨?_,?_⟩))
  λh1=>have:=VC (nf h1); .c (λh2=> .kt (.s ⟨?_,?_⟩))
  λh2=> .c (λh3=> .s ⟨?_,?_⟩)
  λh3=> .m (pA ?_) (have:=AM a0.Cur.Key [114,101,107,101,121];have:=@DM a0.Cur.Key [114,101,107,101,121]; .b (zff ?_ ?_) λr6 xW=> .s ⟨?_,?_⟩))))
 all_goals first | trivial | ((try simp only[NB]at *)<;>(try simp(disch:=omega) only[AA,IA]at *)<;>omega) | grind [eA,oA,kC,SG,AA,IA]
def zpc{a0 a1 a2}(ha:kC a0=true)(hb:wt a2≤1000):Ok (Ih a0 a1 a2) λr=>kC r.1=true∧(r.1.Role=a0.Role∧r.1.Sn=a0.Sn):=by
 unfold Ih;refine have:=VC ha;
 .m (pA ?_) (.j0 (.m (pA ?_) (.c (λh1=> .kt (.s ⟨?_,?_⟩))
  λh1=>have:=VC (nf h1); .c (λh2=> .kt (.s ⟨?_,?_⟩))
  λh2=> .c (λh3=> .kt (.s ⟨?_,?_⟩))
  λh3=> .b zeK λr5 TV=> .m (pA ?_) (.c (λh4=> .s ⟨?_,?_⟩)
  λh4=> .c (λh5=> .s ⟨?_,?_⟩)
  λh5=> .b (zsw ?_) λr7 MW=> .j0 (.c (λh6=> .kt (.s ⟨?_,?_⟩))
  λh6=> .c (λh7=> .s ⟨?_,?_⟩)
  λh7=> .s ⟨?_,?_⟩)))))
 all_goals first | trivial | ((try simp only[NB]at *)<;>(try simp(disch:=omega) only[AA,IA]at *)<;>omega) | grind [eA,oA]
def zpk{a0 a1 a2}(ha:vC a0=true)(hb:a0.Dead=false)(hc:wt a2≤1000):Ok (Kx a0 a1 a2) λr=>WE a0 r.1∧HE r.2.1∧(r.2.1.length≤1∧wt r.2.1≤400)∧dC r.2.2∧r.2.2.length≤2∧r.1.Dead=false:=by
 unfold Kx;refine have:=jF ha;have hl:=ZM ha hb;have:=eO ha;
 .b (zpc ?_ ?_) λr1 PV=>have:=VC PV.1; .c (λh1=> .s ⟨?_,?_,?_,?_,?_,?_⟩)
  λh1=> .j (λy2:(List Ae)=>dC y2∧y2.length≤1) (λy2 wW=>have:=BE wW.1; .b (zkm ?_) λr7 MW=> .c (λh2=> .s ⟨?_,?_,?_,?_,?_,?_⟩)
  λh2=> .b (ZL ?_ ?_) λr8 zW=>have bX:=wE.2 ⟨wW.1,sD.2 ⟨zW,CC⟩⟩;have:=aT zW; .g ?_ (.s ⟨?_,?_,?_,?_,?_,?_⟩))
  λk3 LV=> .c (λh3=> .m (pA ?_) (.m (pA ?_) (.g ?_ (LV _ ⟨?_,?_⟩))))
  λh3=>LV _ ⟨?_,?_⟩
 all_goals first | trivial | exact PM ha (by grind) (by grind) (by grind) hl.2.2.2.1 hl.2.2.2.2.2 hb | ((try simp only[NB]at *)<;>omega) | grind [eA,oA,PM,sO,fH,jC,UC,SD,GA,sD,CC,wE]
def zh5{a0 a1}(ha:sC a0=true):Ok (Du a0 a1) λr=>sC r=true∧r.At=a0.At:=by
 have hL:=CB;have hf:=hI ha;unfold Du;refine .m (pA (by omega)) (.j (λy:Aj=>y.At=a0.At∧y.Cands.Sublist a0.Cands) (λy hy=> .s ⟨?_,hy.1⟩) λk hk=> .l (λx:Int×Aj=>∃i:Nat,x.1=(i:Int)∧i≤a0.Cands.length∧x.2.At=a0.At∧x.2.Cands.Sublist (a0.Cands.take i)) (λx:Int×Aj=>((a0.Cands.length:Int) - x.1).toNat) (λx hx k' gX=>?_) ⟨0,rfl,Nat.zero_le _,rfl, .slnil⟩ (by simp only;omega))
 ·have:=zu2 ha hy.2;rwa [←hy.1]at this
 ·obtain⟨i,h1,h2,h3,h4⟩:=hx;have hs:=h4.trans (List.take_sublist _ _);refine .c (λh=>?_) λ_=>hk _ ⟨h3,hs⟩;simp only[B]at h;have b4:iA .i64 x.1 1=((i+1:Nat):Int):=by rw[h1,AA (by omega) (by omega)];omega
  refine .h (by simp only[B];omega) ?_;rw[show x.1.toNat=i by omega];refine .bg (by omega) λe he hew=>?_;have ht:=take_succ he;have hl:=hs.length_le;refine .j (λy:Aj=>y.At=a0.At∧y.Cands.Sublist (a0.Cands.take (i+1))) (λy hy=>gX _ ⟨i+1,b4,by omega,hy.1,hy.2⟩ (by simp only[b4];omega)) λk2 KV=> .c (λ_=> .g ?_ (KV _ ⟨h3,?_⟩)) λ_=>KV _ ⟨h3,?_⟩
  ·have:wt x.2.Cands≤39 *3:=by
    have:=IM 38 x.2.Cands λc hc=>by have:=zai (hs.subset hc);simp only[N]at hf this⊢;omega
    simp only[N]at hf;omega
   simp only[N]at hf hew⊢;omega
  ·rw[ht];exact h4.append (.refl _)
  ·rw[ht];exact h4.trans (List.sublist_append_left _ _)
def zry{a0 a1 a2 a3}(ha:sC a0=true)(hb:a3.length≤100):Ok (Gf a0 a1 a2 a3) λr=>sC r.1=true∧r.1.At=a0.At∧(r.2=true→GA a2=true):=by
 unfold Gf;refine have:=hI ha;
 .j0 (.c (λh1=> .kt (.m (pA ?_) (.s ⟨?_,?_,?_⟩)))
  λh1=>have:=hI (nf h1); .c (λh2=> .kt (.m (pA ?_) (.s ⟨?_,?_,?_⟩)))
  λh2=> .c (λh3=> .kt (.m (pA ?_) (.s ⟨?_,?_,?_⟩)))
  λh3=>have:=EF (nf h3); .c (λh4=> .kt (.m (pA ?_) (.s ⟨?_,?_,?_⟩)))
  λh4=>have:=cK (nf h4); .c (λh5=> .m (pA ?_) (.s ⟨?_,?_,?_⟩))
  λh5=> .b (zh5 ?_) λr5 TV=>have:=hI TV.1;have hap:=@zuz r5 a2 a3 a1 TV.1; .j0 (.m (pA ?_) (have:=zkW r5 a2; .c (λh6=> .kt (.m (pA ?_) (.s ⟨?_,?_,?_⟩)))
  λh6=> .c (λh7=> .m (pA ?_) (.s ⟨?_,?_,?_⟩))
  λh7=> .m (pA ?_) (.g ?_ (.s ⟨?_,?_,?_⟩)))))
 all_goals first | trivial | ((try simp only[NB]at *)<;>(try simp(disch:=omega) only[AA,IA]at *)<;>omega) | grind [eA,oA,VN]
end Go.D

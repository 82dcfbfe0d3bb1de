/-
 The program's machine comes to an end; what is right stays right.
-/
import Derived.Test.YtfealdecpglcnaaGreatE1
set_option linter.all false
namespace Go.D
def zaK{a0}:Ok (Bi a0) λr=>mD r=true∧(eA a0 0 1000000=true→r.On=true):=by
 unfold Bi
 refine .c (λh1=> .s ⟨?_,?_⟩)
  λh1=> .s ⟨?_,?_⟩
 all_goals first|trivial|((try simp only[NB]at *)<;>(try simp(disch:=omega) only[DA,RA]at *)<;>omega)|grind [eA,mA,mD,GF,DA]
def zih{a0}(ha:a0.Cn.length≤100):Ok (Ig a0) λr=>wt r≤a0.Cn.length:=by
 unfold Ig;refine .m (nA ?_) (.s ?_)
 all_goals first|trivial|((try simp only[NB]at *)<;>omega)|grind [eA,mA]
def zeH{a0 a1 a2 a3}(ha:wt a1≤1000000000):Ok (Cq a0 a1 a2 a3) λr=>r.length≤25∧(0<r.length→a1.length=12):=by
 unfold Cq
 refine .j0 (.c (λh1=> .kt (.s ⟨?_,?_⟩))
  λh1=> .c (λh2=> .kt (.s ⟨?_,?_⟩))
  λh2=>have:=lK (nf h2); .c (λh3=> .kt (.s ⟨?_,?_⟩))
  λh3=> .c (λh4=> .s ⟨?_,?_⟩)
  λh4=> .m (nA ?_) (have:=gG [] a2 4; .m (nA ?_) (have:=gG [] a3 6; .m (nA ?_) (have:=BI ([[UInt8.ofNat (IntKind.wrap .u8 a0:Int).toNat],a1,(xD [] a2 4),(xD [] a3 6)]:List (List UInt8)); .s ⟨?_,?_⟩))))
 all_goals first|trivial|((try simp only[NB]at *)<;>omega)|grind [eA,mA]
def zfl{a0 a1 a2}(ha:wt a1≤1000000000)(hb:wt a2≤1000000000):Ok (Ch a0 a1 a2) λr=>r.length≤200∧r.length≤a2.length:=by
 unfold Ch
 refine .j0 (.c (λh1=> .kt (.s ?_))
  λh1=> .c (λh2=> .kt (.s ?_))
  λh2=> .c (λh3=> .s ?_)
  λh3=> .b (zpK ?_) λr3 sW=> .j (λy4:(List UInt8)=>y4.length≤200∧y4.length≤a2.length) (λy4 TZ=> .s ?_)
  λk5 BW=> .l (λx6:(List UInt8)×Int=>0≤x6.2∧x6.2≤(r3.length:Int)∧(x6.1.length:Int)=x6.2) (λx6:(List UInt8)×Int=>((r3.length:Int) - x6.2).toNat) (λx6 hx6 k7 CW=> .c (λh4=> .h ?_ (.bg ?_ λe8 N3 N2=> .bi ?_ ?_ λe9 qZ gY=> .g ?_ (CW _ ?_ ?_)))
  λh4=>BW _ ?_) ?_ ?_)
 all_goals first|trivial|((try simp only[NB]at *)<;>(try simp(disch:=omega) only[DA,RA]at *)<;>omega)|grind [eA,mA]
def AP{a0 a1}(ha:wt a1≤1000000000):Ok (Bq a0 a1) λr=>r.length≤100:=by
 unfold Bq
 refine .j0 (.c (λh1=> .kt (.s ?_))
  λh1=> .c (λh2=> .kt (.s ?_))
  λh2=> .m (nA ?_) (.c (λh3=> .s ?_)
  λh3=>have:=LC (nf h3); .b (zeH ?_) λr4 NV=> .m (nA ?_) (have:=BI ([[UInt8.ofNat (116:Int).toNat],r4,[UInt8.ofNat (IntKind.wrap .u8 a1.Kind:Int).toNat],a1.Body]:List (List UInt8)); .s ?_)))
 all_goals first|trivial|((try simp only[NB]at *)<;>omega)|grind [eA,mA]
def SU{a0 a1}:Ok (Ci a0 a1) λr=>r.length≤16∧(r.length=16∨(TC a0 a1).length=0):=by
 unfold Ci;refine have hm:=FL a0 a1;have n4:=zmm a0 a1;
 .c (λh1=> .s ⟨?_,?_⟩)
  λh1=> .h ?_ (.m (nA ?_) (.s ⟨?_,?_⟩))
 all_goals first|trivial|((try simp only[NB]at *)<;>omega)|grind [eA,mA]
def ze0{a0 a1 a2 a3 a4 a5 a6}(ha:wt a0≤1000000000)(hb:wt a2≤1000000000)(hc:wt a6≤1000000000):Ok (Cj a0 a1 a2 a3 a4 a5 a6) λr=>wt r.1≤300∧(r.1.Sn=[]∨r.1.Sn=a2)∧(r.1.Epoch=0∨r.1.Epoch=a3)∧(r.1.Seq=0∨r.1.Seq=a4):=by
 unfold Cj
 refine .m (nA ?_) (.m (nA ?_) (.j0 (.c (λh1=> .kt (.s ⟨?_,?_,?_,?_⟩))
  λh1=> .c (λh2=> .kt (.s ⟨?_,?_,?_,?_⟩))
  λh2=> .c (λh3=> .kt (.s ⟨?_,?_,?_,?_⟩))
  λh3=> .m (nA ?_) (.c (λh4=> .s ⟨?_,?_,?_,?_⟩)
  λh4=>have:=LC (nf h4); .b (zeH ?_) λr7 IW=> .b (zfl ?_ ?_) λr8 RW=> .b (AP ?_) λr9 tX=> .b SU λr10 tW=> .s ⟨?_,?_,?_,?_⟩))))
 all_goals first|trivial|((try simp only[NB,List.length_replicate]at *)<;>omega)|grind [eA,mA]
def zp0{a0 a1 a2 a3 a4}(ha:cC a0=true)(hb:wt a2≤1000000000)(hc:wt a4≤1000000000):Ok (Ck a0 a1 a2 a3 a4) λr=>cC r.1=true∧(r.1.N=a0.N∧r.1.Key=a0.Key)∧wt r.2.1≤300∧uH r.2.1 a2:=by
 unfold Ck;refine have:=epF ha;
 .m (nA ?_) (.c (λh1=> .s ⟨?_,?_,?_,?_⟩)
  λh1=>have:=epF (nf h1); .b (ze0 ?_ ?_ ?_) λr2 jW=> .c (λh2=> .s ⟨?_,?_,?_,?_⟩)
  λh2=> .j0 (.c (λh3=> .c (λh4=> .s ⟨?_,?_,?_,?_⟩)
  λh4=> .c (λh5=> .s ⟨?_,?_,?_,?_⟩)
  λh5=> .b (ze0 ?_ ?_ ?_) λr5 MV=> .s ⟨?_,?_,?_,?_⟩)
  λh3=> .kf (.c (λh6=> .s ⟨?_,?_,?_,?_⟩)
  λh6=> .b (ze0 ?_ ?_ ?_) λr5 MV=> .s ⟨?_,?_,?_,?_⟩)))
 all_goals first|trivial|((try simp only[NB]at *)<;>(try simp(disch:=omega) only[DA,RA]at *)<;>omega)|grind [eA,mA,uH,cC,DA]
def yP{a0 a1 a2}(ha:rB a0=true)(hb:wt a2≤1000000000):Ok (Bh a0 a1 a2) λr=>rB r.1=true∧(r.1.Role=a0.Role∧r.1.Sn=a0.Sn∧r.1.Next=a0.Next∧r.1.Cur.N=a0.Cur.N∧r.1.HasOld=a0.HasOld)∧wt r.2.1≤300∧uH r.2.1 a0.Sn:=by
 unfold Bh;refine have:=SC ha;
 .m (nA ?_) (.m (nA ?_) (.c (λh1=> .s ⟨?_,?_,?_,?_⟩)
  λh1=>have:=SC (nf h1); .b (zp0 ?_ ?_ ?_) λr3 sW=> .s ⟨?_,?_,?_,?_⟩))
 all_goals first|trivial|((try simp only[NB]at *)<;>omega)|grind [eA,mA,rB,DG,uH]
def zeX{a0 a1}(ha:a0.length=32∨a0.length=0)(hb:a1.length≤100):Ok (Fc a0 a1) λr=>gC r=true:=by
 unfold Fc;refine .m (nA ?_) (.m (nA ?_) (.s ?_))
 all_goals first|trivial|((try simp only[NB]at *)<;>omega)|grind [eA,mA,gC,RC,ND,EA,lD,rC,sE]
def nM{a0 a1}(ha:rB a0=true)(hb:wt a1≤1000):Ok (Bz a0 a1) λr=>gC r=true:=by
 unfold Bz;refine have:=SC ha;
 .b (AP ?_) λr1 LV=> .b (zeX ?_ ?_) λr2 jW=> .s ?_
 all_goals first|trivial|((try simp only[NB]at *)<;>omega)|grind [eA,mA]
def zaE{a0 a1 a2}(ha:fB a0=true)(hb:a2.length≤300000):Ok (Ec a0 a1 a2) λr=>fB r.1=true∧(r.1.Id=a0.Id∧r.1.Psk=a0.Psk∧r.1.At=a0.At)∧WB r.2.2.1∧r.2.2.1.length≤4∧(r.2.1.length≤1∧wt r.2.1≤400):=by
 unfold Ec;refine have:=RD ha;
 .m (nA ?_) (.j0 (.m (nA ?_) (.c (λh1=> .kt (.s ⟨?_,?_,?_,?_,?_⟩))
  λh1=>have:=RD (nf h1); .c (λh2=> .kt (.s ⟨?_,?_,?_,?_,?_⟩))
  λh2=> .c (λh3=> .s ⟨?_,?_,?_,?_,?_⟩)
  λh3=> .c (λh4=> .s ⟨?_,?_,?_,?_,?_⟩)
  λh4=> .b (yP ?_ ?_) λr5 MV=> .c (λh5=> .s ⟨?_,?_,?_,?_,?_⟩)
  λh5=> .m (nA ?_) (.m (nA ?_) (.b (nM ?_ ?_) λr8 RW=> .s ⟨?_,?_,?_,?_,?_⟩)))))
 all_goals first|trivial|((try simp only[NB]at *)<;>omega)|grind [eA,mA,fB,uH,gC,RC,ND,EA,lD,rC, →SC]
def zq3{a0}(ha:rB a0=true):Ok (Dx a0) λr=>rB r.1=true∧(r.1.Role=a0.Role∧r.1.Sn=a0.Sn∧r.1.Cur=a0.Cur)∧(r.2=true→r.1.Next.length=32):=by
 unfold Dx;refine have:=SC ha;
 .m (nA ?_) (.j0 (.m (nA ?_) (.c (λh1=> .kt (.s ⟨?_,?_,?_⟩))
  λh1=>have:=SC (nf h1); .c (λh2=> .kt (.s ⟨?_,?_,?_⟩))
  λh2=> .c (λh3=> .kt (.s ⟨?_,?_,?_⟩))
  λh3=> .c (λh4=> .s ⟨?_,?_,?_⟩)
  λh4=> .m (nA ?_) (have:=GM a0.Cur.Key [114,101,107,101,121];have:=@xL a0.Cur.Key [114,101,107,101,121]; .s ⟨?_,?_,?_⟩))))
 all_goals first|trivial|((try simp only[NB]at *)<;>omega)|grind [eA,mA,rB,DG]
def zeo{a0}:Ok (Bp a0) λr=>r.length≤6:=by
 unfold Bp
 refine .c (λh1=> .s ?_)
  λh1=> .m (nA ?_) (have:=gG [] a0 4; .s ?_)
 all_goals first|trivial|((try simp only[NB]at *)<;>omega)|grind [eA,mA]
def zhY{a0}(ha:rB a0=true):Ok (Ii a0) λr=>rB r.1=true∧(r.1.Role=a0.Role∧r.1.Sn=a0.Sn∧r.1.Next=a0.Next∧r.1.Cur.N=a0.Cur.N∧r.1.HasOld=a0.HasOld)∧wt r.2.1≤300∧uH r.2.1 a0.Sn:=by
 unfold Ii;refine have:=SC ha;
 .j0 (.m (nA ?_) (.c (λh1=> .kt (.m (nA ?_) (.s ⟨?_,?_,?_,?_⟩)))
  λh1=>have:=SC (nf h1); .c (λh2=> .m (nA ?_) (.s ⟨?_,?_,?_,?_⟩))
  λh2=> .b zeo λr5 MV=> .b (yP ?_ ?_) λr6 AW=> .s ⟨?_,?_,?_,?_⟩))
 all_goals first|trivial|((try simp only[NB]at *)<;>(try simp(disch:=omega) only[DA,RA]at *)<;>omega)|grind [eA,mA,uH]
def zej{a0 a1}(ha:fB a0=true):Ok (Jk a0 a1) λr=>fB r.1=true∧(r.1.Id=a0.Id∧r.1.Psk=a0.Psk∧r.1.At=a0.At)∧WB r.2.2.1∧r.2.2.1.length≤4∧(r.2.1.length≤1∧wt r.2.1≤400):=by
 unfold Jk;refine have:=RD ha;
 .m (nA ?_) (.j0 (.m (nA ?_) (.c (λh1=> .kt (.s ⟨?_,?_,?_,?_,?_⟩))
  λh1=>have:=RD (nf h1); .c (λh2=> .s ⟨?_,?_,?_,?_,?_⟩)
  λh2=> .j0 (.c (λh3=> .kt (.s ⟨?_,?_,?_,?_,?_⟩))
  λh3=> .c (λh4=> .s ⟨?_,?_,?_,?_,?_⟩)
  λh4=> .b (zq3 ?_) λr7 IW=> .b (zhY ?_) λr8 RW=> .j0 (.c (λh5=> .kt (.s ⟨?_,?_,?_,?_,?_⟩))
  λh5=> .c (λh6=> .s ⟨?_,?_,?_,?_,?_⟩)
  λh6=> .b zaK λr11 NW=> .b (nM ?_ ?_) λr12 TX=> .s ⟨?_,?_,?_,?_,?_⟩)))))
 all_goals first|trivial|((try simp only[NB]at *)<;>omega)|grind [eA,mA,fB,uH,gC,RC,ND,EA,lD,rC, →SC]
def ze5{a0 a1 a2}(ha:fB a0=true)(hb:a2.length≤100):Ok (Jj a0 a1 a2) λr=>fB r.1=true∧(r.1.Id=a0.Id∧r.1.Psk=a0.Psk∧r.1.At=a0.At)∧WB r.2.2.1∧r.2.2.1.length≤4∧(r.2.1.length≤1∧wt r.2.1≤400):=by
 unfold Jj;refine have:=RD ha;
 .m (nA ?_) (.j0 (.m (nA ?_) (.c (λh1=> .kt (.s ⟨?_,?_,?_,?_,?_⟩))
  λh1=>have:=RD (nf h1); .c (λh2=> .kt (.s ⟨?_,?_,?_,?_,?_⟩))
  λh2=> .c (λh3=> .s ⟨?_,?_,?_,?_,?_⟩)
  λh3=>have:=lK (nf h3); .c (λh4=> .s ⟨?_,?_,?_,?_,?_⟩)
  λh4=> .m (nA ?_) (.b zaK λr6 AW=> .m (nA ?_) (.b (zih ?_) λr8 RW=> .s ⟨?_,?_,?_,?_,?_⟩)))))
 all_goals first|trivial|((try simp only[NB]at *)<;>omega)|grind [eA,mA,fB,uH,gC,RC,ND,EA,lD,rC, →SC]
def ziT{a0 a1}(ha:fB a0=true):Ok (Bw a0 a1) λr=>fB r=true∧(r.Id=a0.Id∧r.Psk=a0.Psk):=by
 unfold Bw;refine have:=RD ha;
 .m (nA ?_) (.j0 (.m (nA ?_) (.c (λh1=>have:=RD h1; .j0 (.c (λh2=>have:=EF h2; .s ⟨?_,?_⟩)
  λh2=> .s ⟨?_,?_⟩))
  λh1=> .j0 (.kf (.s ⟨?_,?_⟩)))))
 all_goals first|trivial|((try simp only[NB]at *)<;>omega)|grind [eA,mA,fB,oJ]
def zbw{a0}(ha:fB a0=true):Ok (Fd a0) λr=>fB r=true∧(r.Id=a0.Id∧r.Psk=a0.Psk∧r.At=a0.At):=by
 unfold Fd;refine have:=RD ha;
 .m (nA ?_) (.s ⟨?_,?_⟩)
 all_goals first|trivial|((try simp only[NB]at *)<;>omega)|grind [eA,mA,fB,HF,oC,GF,UF]
def zbf{a0 a1 a2}(ha:0≤a0∧a0≤9)(hb:a1=0∨a1=1)(hc:a2.length=12∨a2.length=0):Ok (Dl a0 a1 a2) λr=>gC r=true:=by
 unfold Dl;refine .m (nA ?_) (.s ?_)
 all_goals first|trivial|((try simp only[NB]at *)<;>omega)|grind [eA,mA,gC,RC,ND,EA,lD,rC,sE]
def ze1{a0}(ha:fB a0=true):Ok (Jl a0) λr=>fB r.1=true∧(r.1.Id=a0.Id∧r.1.Psk=a0.Psk∧r.1.At=a0.At)∧WB r.2∧r.2.length≤1:=by
 unfold Jl;refine have:=RD ha;
 .m (nA ?_) (.c (λh1=> .m (nA ?_) (.s ⟨?_,?_,?_,?_⟩))
  λh1=>have:=RD (nf h1); .c (λh2=> .b (zbw ?_) λr3 sW=> .s ⟨?_,?_,?_,?_⟩)
  λh2=> .b (zbw ?_) λr4 NV=> .b (zbf ?_ ?_ ?_) λr5 MV=> .s ⟨?_,?_,?_,?_⟩)
 all_goals first|trivial|((try simp only[NB]at *)<;>omega)|grind [eA,mA,fB, →SC,lD,rC]
def zet{a0}(ha:wt a0≤1000000000):Ok (Ax a0) λr=>r.length≤200:=by
 unfold Ax
 refine .m (nA ?_) (.c (λh1=> .s ?_)
  λh1=>have:=LC (nf h1); .c (λh2=> .m (nA ?_) (have:=BI ([[UInt8.ofNat (IntKind.wrap .u8 a0.Kind:Int).toNat],[UInt8.ofNat (IntKind.wrap .u8 a0.Id:Int).toNat],a0.Cn,(List.replicate (20:Int).toNat (UInt8.ofNat (0:Int).toNat:UInt8):List UInt8)]:List (List UInt8)); .s ?_))
  λh2=> .c (λh3=> .m (nA ?_) (have:=gG [] a0.Tick 4; .m (nA ?_) (have:=BI ([[UInt8.ofNat (IntKind.wrap .u8 a0.Kind:Int).toNat],a0.Cn,a0.Sn,(xD [] a0.Tick 4),a0.Cookie]:List (List UInt8)); .s ?_)))
  λh3=> .c (λh4=> .m (nA ?_) (have:=gG [] a0.Tick 4; .m (nA ?_) (have:=BI ([[UInt8.ofNat (IntKind.wrap .u8 a0.Kind:Int).toNat],[UInt8.ofNat (IntKind.wrap .u8 a0.Id:Int).toNat],a0.Cn,a0.Sn,(xD [] a0.Tick 4),a0.Cookie,a0.Proof]:List (List UInt8)); .s ?_)))
  λh4=> .m (nA ?_) (have:=gG [] a0.Epoch 4; .m (nA ?_) (have:=gG [] a0.Seq 6; .m (nA ?_) (have:=BI ([[UInt8.ofNat (IntKind.wrap .u8 a0.Kind:Int).toNat],a0.Sn,(xD [] a0.Epoch 4),(xD [] a0.Seq 6),a0.Tag,a0.Body]:List (List UInt8)); .s ?_))))
 all_goals first|trivial|((try simp only[NB,List.length_replicate]at *)<;>omega)|grind [eA,mA]
def zev{a0 a1 a2}(ha:wt a2≤1000000000):Ok (Dm a0 a1 a2) λr=>wt r≤200∧(EA a0=true→EA a1=true→tD r=true)∧(r.From=a0∧r.To=a1):=by
 unfold Dm;refine .b (zet ?_) λr1 LV=> .s ⟨?_,?_,?_⟩
 all_goals first|trivial|((try simp only[NB]at *)<;>omega)|grind [eA,mA,tD]
def zaG{a0 a1}(ha:wt a0≤1000000)(hb:wt a1≤1000000):Ok (Br a0 a1) λr=>wt r≤201 *a1.length∧(EA a0.At=true→SI r a0.At∧oP r):=by
 unfold Br;refine have hw:=QB a1;have:=zl8;
 .j (λy1:(List Al)=>wt y1≤201 *a1.length∧(EA a0.At=true→SI y1 a0.At∧oP y1)) (λy1 XV=> .s ⟨?_,?_⟩)
  λk2 BV=> .l (λx3:(List Al)×Int=>(0≤x3.2∧x3.2≤(a1.length:Int))∧wt x3.1≤201 *x3.2∧(EA a0.At=true→SI x3.1 a0.At∧oP x3.1)) (λx3:(List Al)×Int=>((a1.length:Int) - x3.2).toNat) (λx3 aY k4 bW=> .c (λh1=> .bi ?_ ?_ λe5 iX dX=> .b (zev ?_) λr7 IW=> .g ?_ (bW _ ⟨?_,?_,?_⟩ ?_))
  λh1=>BV _ ⟨?_,?_⟩) ⟨?_,?_,?_⟩ ?_
 all_goals first|trivial|((try simp only[NB]at *)<;>(try simp(disch:=omega) only[DA,RA]at *)<;>omega)|grind [eA,mA,SI,oP]
def zeB{a0}(ha:wt a0≤1000000)(hb:∀o∈a0,EA o.To=true):Ok (Bs a0) λr=>wt r≤201 *a0.length∧SI r SB:=by
 unfold Bs;refine have hw:=QB a0;have:=zl8;
 .j (λy1:(List Al)=>wt y1≤201 *a0.length∧SI y1 SB) (λy1 XV=> .s ⟨?_,?_⟩)
  λk2 BV=> .l (λx3:(List Al)×Int=>(0≤x3.2∧x3.2≤(a0.length:Int))∧wt x3.1≤201 *x3.2∧SI x3.1 SB) (λx3:(List Al)×Int=>((a0.length:Int) - x3.2).toNat) (λx3 aY k4 bW=> .c (λh1=> .bi ?_ ?_ λe5 iX dX=>have:=hb _ (List.mem_of_getElem? iX); .b (zev ?_) λr7 IW=> .g ?_ (bW _ ⟨?_,?_,?_⟩ ?_))
  λh1=>BV _ ⟨?_,?_⟩) ⟨?_,?_,?_⟩ ?_
 all_goals first|trivial|((try simp only[NB]at *)<;>(try simp(disch:=omega) only[DA,RA]at *)<;>omega)|grind [eA,mA,SI]
end Go.D
namespace Go.D
def ze4{a0 a1 a2}(ha:pC a0=true):Ok (Fe a0 a1 a2) λr=>pC r=true:=by
 unfold Fe;refine have:=cJ ha;have:=qT a0 a1;
 .m (nA ?_) (.j0 (.c (λh1=> .kt (.s ?_))
  λh1=>have:=cJ (nf h1); .c (λh2=> .kt (.s ?_))
  λh2=>have:=EF (nf h2); .c (λh3=> .s ?_)
  λh3=> .j0 (.c (λh4=> .h ?_ (.bg ?_ λe6 jY kX=>have hg:=zgR ha jY;have hx:=zgF (fA .i64 e6.Got a2) 1000000;have hk:=@zmk a0 _ e6 (HD (fA .i64 e6.Got a2) 1000000) e6.Sent ha jY; .h ?_ (.m jY (.s (have:=AD a0 ((VA a0 a1).toNat) (⟨e6.A,HD (fA .i64 e6.Got a2) 1000000,e6.Sent⟩:Ak);?_)))))
  λh4=> .j0 (.c (λh5=> .g ?_ (.s ?_))
  λh5=> .s ?_))))
 all_goals first|trivial|((try simp only[NB]at *)<;>(try simp(disch:=omega) only[DA,RA]at *)<;>omega)|grind [eA,mA,DA,zwT]
def BH{a0 a1}(ha:a0.length≤900000000)(hb:0≤a1∧a1≤100):Ok (Bl a0 a1) λr=>r.1.length≤a1∧r.2.length≤a0.length:=by
 unfold Bl;refine have hm:=zgF a1 (a0.length:Int);
 .h ?_ (.m (nA (have:=dE (List.drop 0 a0) ((HD a1 (a0.length:Int) - 0).toNat);have:=qF a0 0;?_)) (.h ?_ (.s (have:=dE (List.drop 0 a0) ((HD a1 (a0.length:Int) - 0).toNat);have:=dE (List.drop ((HD a1 (a0.length:Int)).toNat) a0) (((a0.length:Int) - (HD a1 (a0.length:Int))).toNat);have:=qF a0 0;have:=qF a0 ((HD a1 (a0.length:Int)).toNat);⟨?_,?_⟩))))
 all_goals first|trivial|((try simp only[NB]at *)<;>omega)|grind [eA,mA]
def kM{a0 a1}(ha:a0.length≤900000000)(hb:0≤a1∧a1≤100):Ok (Ca a0 a1) λr=>r.2.length≤a0.length:=by
 unfold Ca;refine .b (BH ?_ ?_) λr1 LV=> .m (nA ?_) (.s ?_)
 all_goals first|trivial|((try simp only[NB]at *)<;>omega)|grind [eA,mA]
def zey{a0}(ha:wt a0≤900000000):Ok (Cb a0) λr=>wt r.1≤200∧(r.2=true→TA r.1=true):=by
 unfold Cb
 refine .b (kM ?_ ?_) λr1 LV=> .j (λy2:(List UInt8)×Ab=>y2.1.length≤a0.length∧wt y2.2≤200) (λy2 lW=> .j0 (.m (nA ?_) (.c (λh1=> .kt (.s ⟨?_,?_⟩))
  λh1=>have:=LC (nf h1); .b (zet ?_) λr30 o5=> .m (nA ?_) (.c (λh2=> .s ⟨?_,?_⟩)
  λh2=> .s ⟨?_,?_⟩))))
  λk3 CV=> .c (λh3=> .b (kM ?_ ?_) λr4 NV=> .b (BH ?_ ?_) λr5 MV=>CV _ ⟨?_,?_⟩)
  λh3=> .j0 (.c (λh4=> .j0 (.kt (.j (λy10:(List UInt8)×Ab=>y10.1.length≤a0.length∧wt y10.2≤0) (λy10 VX=> .b (BH ?_ ?_) λr13 IZ=> .b (BH ?_ ?_) λr14 ZY=> .b (kM ?_ ?_) λr15 iY=> .b (BH ?_ ?_) λr16 WX=> .j0 (.c (λh5=> .b (BH ?_ ?_) λr19 HZ=>CV _ ⟨?_,?_⟩)
  λh5=>CV _ ⟨?_,?_⟩))
  λk11 cW=> .c (λh6=> .b (kM ?_ ?_) λr12 TX=>cW _ ⟨?_,?_⟩)
  λh6=>cW _ ⟨?_,?_⟩)))
  λh4=> .j0 (.c (λh7=> .j (λy10:(List UInt8)×Ab=>y10.1.length≤a0.length∧wt y10.2≤0) (λy10 VX=> .b (BH ?_ ?_) λr13 IZ=> .b (BH ?_ ?_) λr14 ZY=> .b (kM ?_ ?_) λr15 iY=> .b (BH ?_ ?_) λr16 WX=> .j0 (.c (λh8=> .b (BH ?_ ?_) λr19 HZ=>CV _ ⟨?_,?_⟩)
  λh8=>CV _ ⟨?_,?_⟩))
  λk11 cW=> .c (λh9=> .b (kM ?_ ?_) λr12 TX=>cW _ ⟨?_,?_⟩)
  λh9=>cW _ ⟨?_,?_⟩)
  λh7=> .j0 (.c (λgW=> .b (BH ?_ ?_) λr22 IX=> .b (kM ?_ ?_) λr23 T2=> .b (kM ?_ ?_) λr24 UX=> .b (BH ?_ ?_) λr25 O0=> .b (BH ?_ ?_) λr26 BY=>CV _ ⟨?_,?_⟩)
  λgW=>CV _ ⟨?_,?_⟩)))
 all_goals first|trivial|((try simp only[NB]at *)<;>omega)|grind [eA,mA]
def zi2{a0 a1}(ha:wt a0≤1000000):Ok (Dn a0 a1) λr=>True:=by
 unfold Dn;refine have hw:=QB a0.L;
 .j0 (.l (λx3:Int=>0≤x3∧x3≤(a0.L.length:Int)) (λx3:Int=>((a0.L.length:Int) - x3).toNat) (λx3 aY k4 bW=> .c (λh1=> .bi ?_ ?_ λe5 iX dX=> .j0 (.c (λh2=> .c (λh3=> .s ?_)
  λh3=>bW _ ?_ ?_)
  λh2=> .kf (bW _ ?_ ?_)))
  λh1=> .s ?_) ?_ ?_)
 all_goals first|trivial|((try simp only[NB]at *)<;>(try simp(disch:=omega) only[DA,RA]at *)<;>omega)|grind [eA,mA]
def zia{a0 a1}(ha:wt a0≤1000000):Ok (Bc a0 a1) λr=>pC a0=true→0≤VA a0 a1→∀e,a0[(VA a0 a1).toNat]?=some e→r=3 *e.Got - e.Sent:=by
 unfold Bc;refine have hw:=QB a0;have:=qT a0 a1;
 .j0 (.c (λh1=> .kt (.s ?_))
  λh1=>have:=cJ (nf h1); .c (λh2=> .s ?_)
  λh2=> .bi ?_ ?_ λe3 d5 O2=>have hg:=λh=>@zgR a0 _ e3 h d5;have:=@zdW e3.Got;have:=@RA (3 *e3.Got) e3.Sent; .bi ?_ ?_ λe4 YY zY=>match(Option.some.inj (d5.symm.trans YY):e3=e4)with|rfl=>(.s ?_))
 all_goals first|trivial|((try simp only[NB]at *)<;>(try simp(disch:=omega) only[DA,RA]at *)<;>omega)|grind [eA,mA]
def zik{a0 a1 a2}(ha:wt a0≤10000):Ok (Ed a0 a1 a2) λr=>True:=by
 unfold Ed
 refine .j0 (.b (zi2 ?_) λr3 _=> .c (λh1=> .s ?_)
  λh1=> .b (zia ?_) λr4 NV=> .s ?_)
 all_goals first|trivial|((try simp only[NB]at *)<;>omega)|grind [eA,mA]
def zpt{a0 a1}(ha:wt a0≤1000000000):Ok (Ik a0 a1) λr=>r.length≤a0.length+12:=by
 unfold Ik
 refine .c (λh1=> .m (nA ?_) (.s ?_))
  λh1=>have:=EF (nf h1); .m (nA ?_) (have:=gG a0 a1.Host 4; .m (nA ?_) (have:=gG (xD a0 a1.Host 4) a1.Port 2; .s ?_))
 all_goals first|trivial|((try simp only[NB]at *)<;>omega)|grind [eA,mA]
def zex{a0 a1 a2 a3 a4}(ha:wt a2≤1000000000)(hb:wt a3≤1000000000):Ok (Ff a0 a1 a2 a3 a4) λr=>r.length≤60:=by
 unfold Ff
 refine .j0 (.c (λh1=> .kt (.s ?_))
  λh1=>have:=EF (nf h1); .c (λh2=> .kt (.s ?_))
  λh2=> .c (λh3=> .kt (.s ?_))
  λh3=>have:=lK (nf h3); .c (λh4=> .kt (.s ?_))
  λh4=>have:=lK (nf h4); .c (λh5=> .s ?_)
  λh5=> .b (zpt ?_) λr3 sW=> .m (nA ?_) (have:=gG [] a4 4; .m (nA ?_) (have:=BI ([r3,[UInt8.ofNat (IntKind.wrap .u8 a1:Int).toNat],a2,a3,(xD [] a4 4)]:List (List UInt8)); .s ?_)))
 all_goals first|trivial|((try simp only[NB]at *)<;>omega)|grind [eA,mA]
def zi3{a0 a1 a2 a3 a4 a5}(ha:wt a3≤1000000000)(hb:wt a4≤1000000000):Ok (Gf a0 a1 a2 a3 a4 a5) λr=>r.length≤16:=by
 unfold Gf
 refine .b (zex ?_ ?_) λr1 LV=> .j0 (.c (λh1=> .kt (.s ?_))
  λh1=>have:=zc3 (nf h1); .c (λh2=> .s ?_)
  λh2=> .b SU λr4 NV=> .s ?_)
 all_goals first|trivial|((try simp only[NB]at *)<;>omega)|grind [eA,mA]
def zqJ{a0 a1}:Ok (De a0 a1) λr=>True:=by
 unfold De
 refine .j0 (.c (λh1=> .c (λh2=> .s ?_)
  λh2=> .s ?_)
  λh1=> .s ?_)
 all_goals first|trivial|((try simp only[NB]at *)<;>(try simp(disch:=omega) only[DA,RA]at *)<;>omega)|grind [eA,mA]
def zi1{a0 a1}(ha:wt a0≤1000000000)(hb:wt a1≤1000000000):Ok (Bx a0 a1) λr=>True:=by
 unfold Bx
 refine .c (λh1=> .s ?_)
  λh1=> .j0 (.l (λx3:Int×Int=>0≤x3.2∧x3.2≤(a0.length:Int)) (λx3:Int×Int=>((a0.length:Int) - x3.2).toNat) (λx3 aY k4 bW=> .c (λh2=> .bi ?_ ?_ λe5 iX dX=> .bi ?_ ?_ λe6 jY kX=>bW _ ?_ ?_)
  λh2=> .s ?_) ?_ ?_)
 all_goals first|trivial|((try simp only[NB]at *)<;>(try simp(disch:=omega) only[DA,RA]at *)<;>omega)|grind [eA,mA]
def zeD{a0 a1}(ha:wt a0≤1000000000)(hb:wt a1≤1000000000):Ok (Bn a0 a1) λr=>True:=by
 unfold Bn
 refine .j0 (.c (λh1=> .b (zi1 ?_ ?_) λr3 _=> .s ?_)
  λh1=> .s ?_)
 all_goals first|trivial|((try simp only[NB]at *)<;>omega)|grind [eA,mA]
def zqo{a0 a1 a2 a3}(ha:wt a3≤1000):Ok (Il a0 a1 a2 a3) λr=>r=0→a3.Kind=3∧TA a3=true:=by
 unfold Il
 refine .j0 (.c (λh1=> .kt (.s ?_))
  λh1=>have:=zc3 (nf h1); .c (λh2=> .kt (.s ?_))
  λh2=> .c (λh3=> .kt (.s ?_))
  λh3=>have:=EF (nf h3); .c (λh4=> .kt (.s ?_))
  λh4=> .m (nA ?_) (.c (λh5=> .s ?_)
  λh5=>have:=LC (nf h5); .b zqJ λr4 _=> .c (λh6=> .s ?_)
  λh6=> .b (zi3 ?_ ?_) λr5 MV=> .b (zeD ?_ ?_) λr6 _=> .c (λh7=> .s ?_)
  λh7=> .s ?_))
 all_goals first|trivial|((try simp only[NB]at *)<;>omega)|grind [eA,mA]
def zh8{a0 a1}:Ok (Cg a0 a1) λr=>r=TC a0 a1:=by
 unfold Cg;refine have:=FL a0 a1;
 .s ?_
 all_goals first|trivial|((try simp only[NB]at *)<;>omega)|grind [eA,mA]
def zem{a0}:Ok (Bj a0) λr=>r.length=32∨r.length=0:=by
 unfold Bj
 refine .c (λh1=> .s ?_)
  λh1=>have:=HL (nf h1); .b zh8 λr2 jW=>have:=zmm [UInt8.ofNat (114:Int).toNat,UInt8.ofNat (111:Int).toNat,UInt8.ofNat (97:Int).toNat,UInt8.ofNat (109:Int).toNat] a0; .m (nA ?_) (have:=GM r2 [102,105,110,105,115,104];have:=@xL r2 [102,105,110,105,115,104]; .s ?_)
 all_goals first|trivial|((try simp only[NB]at *)<;>omega)|grind [eA,mA]
def zep{a0 a1 a2 a3 a4}(ha:wt a1≤1000000000)(hb:wt a2≤1000000000)(hc:wt a4≤1000000000):Ok (Do a0 a1 a2 a3 a4) λr=>r.length≤60:=by
 unfold Do
 refine .j0 (.c (λh1=> .kt (.s ?_))
  λh1=> .c (λh2=> .kt (.s ?_))
  λh2=>have:=lK (nf h2); .c (λh3=> .kt (.s ?_))
  λh3=>have:=lK (nf h3); .c (λh4=> .kt (.s ?_))
  λh4=> .c (λh5=> .s ?_)
  λh5=> .m (nA ?_) (have:=gG [] a3 4; .m (nA ?_) (have:=BI [([UInt8.ofNat (102:Int).toNat,UInt8.ofNat (IntKind.wrap .u8 a0:Int).toNat]:List UInt8),a1,a2,(xD [] a3 4),a4]; .s ?_)))
 all_goals first|trivial|((try simp only[NB]at *)<;>omega)|grind [eA,mA]
def ziz{a0 a1 a2 a3 a4 a5}(ha:wt a2≤1000000000)(hb:wt a3≤1000000000)(hc:wt a5≤1000000000):Ok (Ee a0 a1 a2 a3 a4 a5) λr=>r.length=0∨r.length=16:=by
 unfold Ee
 refine .b zem λr1 LV=> .b (zep ?_ ?_ ?_) λr2 jW=>have:=@wI r1 r2; .j0 (.c (λh1=> .kt (.s ?_))
  λh1=> .c (λh2=> .s ?_)
  λh2=> .b SU λr5 MV=> .s ?_)
 all_goals first|trivial|((try simp only[NB]at *)<;>omega)|grind [eA,mA]
def zpk{a0 a1}(ha:wt a1≤1000):Ok (Im a0 a1) λr=>True:=by
 unfold Im
 refine .j0 (.c (λh1=> .m (nA ?_) (.c (λh2=>have:=LC h2; .b (ziz ?_ ?_ ?_) λr4 NV=> .b (zeD ?_ ?_) λr5 _=> .s ?_)
  λh2=> .s ?_))
  λh1=> .s ?_)
 all_goals first|trivial|((try simp only[NB]at *)<;>omega)|grind [eA,mA]
def zoS{a0}:Ok (Dh a0) λr=>r=⟨a0,[]⟩:=by
 unfold Dh;refine .s ?_
 all_goals first|trivial|((try simp only[NB]at *)<;>omega)|grind [eA,mA]
def zpq{a0 a1 a2}(ha:JC a0=true)(hb:a1.length=12)(hc:a2.length=12):Ok (In a0 a1 a2) λr=>r.length=32:=by
 unfold In;refine have:=HL ha;have hm:=@wI (List.flatten [a1,a2]) a0;
 .j0 (.c (λh1=> .kt (.s ?_))
  λh1=>have:=HL (nf h1); .c (λh2=> .kt (.s ?_))
  λh2=>have:=lK (nf h2); .c (λh3=> .s ?_)
  λh3=>have:=lK (nf h3); .m (nA ?_) (have:=BI [a1,a2]; .b zh8 λr4 NV=> .s ?_))
 all_goals first|trivial|((try simp only[NB]at *)<;>omega)|grind [eA,mA]
def zoO{a0}:Ok (Df a0) λr=>a0.length=32→r.length=32:=by
 unfold Df
 refine .c (λh1=> .s ?_)
  λh1=> .m (nA ?_) (have:=GM a0 [101,112,111,99,104];have:=@xL a0 [101,112,111,99,104]; .s ?_)
 all_goals first|trivial|((try simp only[NB]at *)<;>omega)|grind [eA,mA]
def zqL{a0 a1}(ha:a0.length≤100):Ok (Io a0 a1) λr=>a1=0→r=a0:=by
 unfold Io
 refine .c (λh1=> .s ?_)
  λh1=> .m (nA ?_) (.j (λy2:(List UInt8)=>y2.length≤200∧(a1=0→y2=a0)) (λy2 lW=> .s ?_)
  λk3 CV=> .l (λx4:(List UInt8)×Int=>(0≤x4.2∧x4.2≤64)∧x4.1.length≤200∧(a1=0→x4.1=a0)) (λx4:(List UInt8)×Int=>(64 - x4.2).toNat) (λx4 tZ k5 BW=> .c (λh2=> .m (nA ?_) (have:=GM x4.1 [114,101,107,101,121];have:=@xL x4.1 [114,101,107,101,121];BW _ ⟨?_,?_,?_⟩ ?_))
  λh2=>CV _ ⟨?_,?_⟩) ⟨?_,?_,?_⟩ ?_)
 all_goals first|trivial|((try simp only[NB]at *)<;>(try simp(disch:=omega) only[DA,RA]at *)<;>omega)|grind [eA,mA]
def zhZ{a0 a1 a2 a3}(ha:JC a0=true)(hb:a1.length=12)(hc:a2.length=12):Ok (Gh a0 a1 a2 a3) λr=>a3=0→r.length=32:=by
 unfold Gh
 refine .b (zpq ?_ ?_ ?_) λr1 LV=> .b zoO λr2 jW=> .c (λh1=> .s ?_)
  λh1=> .b (zqL ?_) λr3 sW=> .s ?_
 all_goals first|trivial|((try simp only[NB]at *)<;>omega)|grind [eA,mA]
def zbc{a0 a1}(ha:0≤a0∧a0≤4294967295)(hb:a1.length=32):Ok (Cl a0 a1) λr=>cC r=true∧(r.N=a0∧r.Key=a1∧r.Seq=0):=by
 unfold Cl
 refine .j0 (.c (λh1=> .kt (.s ⟨?_,?_⟩))
  λh1=> .c (λh2=> .s ⟨?_,?_⟩)
  λh2=> .m (nA ?_) (.b zqf λr4 NV=> .s ⟨?_,?_⟩))
 all_goals first|trivial|((try simp only[NB]at *)<;>omega)|grind [eA,mA,cC]
def zh4{a0 a1 a2}(ha:a0=0∨a0=1)(hb:a1.length=12)(hc:a2.length=32):Ok (Ef a0 a1 a2) λr=>rB r=true∧(r.Role=a0∧r.Sn=a1∧r.Cur.N=0∧r.HasOld=false∧r.Next=[]):=by
 unfold Ef
 refine .j0 (.c (λh1=> .kt (.s ⟨?_,?_⟩))
  λh1=> .c (λh2=> .kt (.s ⟨?_,?_⟩))
  λh2=>have:=lK (nf h2); .c (λh3=> .s ⟨?_,?_⟩)
  λh3=> .m (nA ?_) (.b (zbc ?_ ?_) λr4 NV=> .s ⟨?_,?_⟩))
 all_goals first|trivial|((try simp only[NB]at *)<;>omega)|grind [eA,mA,rB,DG,UF,GA]
def zpl{a0 a1 a2 a3}(ha:JC a0=true)(hb:eA a1 0 1000000=true)(hc:EA a2=true)(hd:TA a3=true)(he:a3.Kind=3):Ok (Dp a0 a1 a2 a3) λr=>TB r=true∧(r.Id=a3.Id∧r.Sn=a3.Sn∧r.Cn=a3.Cn∧r.Dead=false):=by
 unfold Dp;refine have:=LC hd;have:=zlZ hd he;have:=@ztK a2 hc;
 .j0 (.c (λh1=> .kt (.s ⟨?_,?_⟩))
  λh1=>have:=HL (nf h1); .c (λh2=> .kt (.s ⟨?_,?_⟩))
  λh2=> .c (λh3=> .kt (.s ⟨?_,?_⟩))
  λh3=>have:=EF (nf h3); .c (λh4=> .kt (.s ⟨?_,?_⟩))
  λh4=> .m (nA ?_) (.c (λh5=> .s ⟨?_,?_⟩)
  λh5=>have:=LC (nf h5); .m (nA ?_) (.m (nA ?_) (.b zoS λr6 AW=> .b (zhZ ?_ ?_ ?_) λr7 IW=> .b (zh4 ?_ ?_ ?_) λr8 RW=> .s ⟨?_,?_⟩))))
 all_goals first|trivial|((try simp only[NB]at *)<;>omega)|grind [eA,mA,TB]
def zid{a0 a1}(ha:GC a0=true)(hb:wt a1≤400):Ok (Bk a0 a1) λr=>GC r.1=true∧(∀e∈r.1.L,e∈a0.L∨e=a1)∧(r.2=0→0≤XB r.1 a1.Sn):=by
 unfold Bk;refine have:=LL ha;have:=@zuh a0.Cap a0.L a1;
 .m (nA ?_) (.j0 (.m (nA ?_) (.c (λh1=> .kt (.s ⟨?_,?_,?_⟩))
  λh1=>have:=LL (nf h1); .m (nA ?_) (.c (λh2=> .kt (.s ⟨?_,?_,?_⟩))
  λh2=>have:=BL (nf h2); .c (λh3=> .s ⟨?_,?_,?_⟩)
  λh3=> .m (nA ?_) (have:=mO a0 a1.Sn; .c (λh4=> .s ⟨?_,?_,?_⟩)
  λh4=> .j0 (.m (nA ?_) (.c (λh5=> .kt (.s ⟨?_,?_,?_⟩))
  λh5=> .c (λh6=> .s ⟨?_,?_,?_⟩)
  λh6=> .m (nA ?_) (.g ?_ (.s ⟨?_,?_,?_⟩)))))))))
 all_goals first|trivial|((try simp only[NB]at *)<;>omega)|grind [eA,mA,zvk]
def zbC{a0 a1 a2}(ha:a0.length=32∨a0.length=0)(hb:a1.length=12∨a1.length=0)(hc:a2.length≤100):Ok (Eg a0 a1 a2) λr=>gC r=true:=by
 unfold Eg;refine .m (nA ?_) (.m (nA ?_) (.m (nA ?_) (.s ?_)))
 all_goals first|trivial|((try simp only[NB]at *)<;>omega)|grind [eA,mA,gC,RC,ND,EA,lD,rC,sE]
def zjE{a0}(ha:rB a0=true):Ok (Eh a0) λr=>rB r.1=true∧(r.1.Role=a0.Role∧r.1.Sn=a0.Sn∧r.1.Next=a0.Next∧r.1.Cur.N=a0.Cur.N∧r.1.HasOld=a0.HasOld)∧wt r.2.1≤300∧uH r.2.1 a0.Sn:=by
 unfold Eh;refine have:=SC ha;
 .j0 (.m (nA ?_) (.c (λh1=> .kt (.m (nA ?_) (.s ⟨?_,?_,?_,?_⟩)))
  λh1=>have:=SC (nf h1); .c (λh2=> .m (nA ?_) (.s ⟨?_,?_,?_,?_⟩))
  λh2=> .b zeo λr5 MV=> .b (yP ?_ ?_) λr6 AW=> .s ⟨?_,?_,?_,?_⟩))
 all_goals first|trivial|((try simp only[NB]at *)<;>omega)|grind [eA,mA,uH]
def zib{a0}(ha:TB a0=true):Ok (Dq a0) λr=>BE a0 r.1∧CE r.2.1∧(r.2.1.length≤1∧wt r.2.1≤400)∧WB r.2.2∧r.2.2.length≤1:=by
 unfold Dq;refine have:=fF ha;have hl:=@kN a0 ha;have:=pO ha;
 .m (nA ?_) (.j0 (.m (nA ?_) (.c (λh1=> .kt (.s ⟨?_,?_,?_,?_,?_⟩))
  λh1=>have:=BL (nf h1); .c (λh2=> .kt (.s ⟨?_,?_,?_,?_,?_⟩))
  λh2=> .c (λh3=> .s ⟨?_,?_,?_,?_,?_⟩)
  λh3=> .b (zjE ?_) λr5 MV=> .c (λh4=> .s ⟨?_,?_,?_,?_,?_⟩)
  λh4=> .b (nM ?_ ?_) λr6 AW=> .s ⟨?_,?_,?_,?_,?_⟩)))
 all_goals first|trivial|((try simp only[NB]at *)<;>omega)|grind [eA,mA,TM,CO,iH,lD,rC]
def zaO{a0 a1 a2}(ha:GC a0=true)(hb:wt a2≤400):Ok (Bo a0 a1 a2) λr=>GC r.1=true∧(∀e∈r.1.L,e∈a0.L∨e=a2)∧r.1.L.length=a0.L.length:=by
 unfold Bo;refine have:=LL ha;
 .m (nA ?_) (.j0 (.m (nA ?_) (.c (λh1=> .kt (.s ⟨?_,?_,?_⟩))
  λh1=>have:=LL (nf h1); .c (λh2=> .kt (.s ⟨?_,?_,?_⟩))
  λh2=> .c (λh3=> .s ⟨?_,?_,?_⟩)
  λh3=> .m (nA ?_) (.h ?_ (.bg ?_ λe6 jY kX=> .m (nA (have:=AD a0.L a1.toNat a2;?_)) (.c (λh4=> .m (nA ?_) (.s ⟨?_,?_,?_⟩))
  λh4=>have:=LL (nf h4); .s (have:=AD a0.L a1.toNat a2;⟨?_,?_,?_⟩)))))))
 all_goals first|trivial|((try simp only[NB]at *)<;>omega)|grind [eA,mA,zga]
def zo9{a0 a1 a2 a3}(ha:wB a0=true)(hb:eA a1 0 1000000=true)(hc:EA a2=true)(hd:TA a3=true):Ok (Gg a0 a1 a2 a3) λr=>wB r.1=true∧r.1.Psks=a0.Psks∧CE r.2.1∧(r.2.1.length≤2∧wt r.2.1≤1000)∧WB r.2.2∧r.2.2.length≤8:=by
 unfold Gg;refine have:=BF ha;have hs:=nE.1 ha;have:=hs.jar;have:=hs.dice;have:=LC hd;
 .j0 (.c (λh1=> .kt (.s ⟨?_,?_,?_,?_,?_,?_⟩))
  λh1=> .b (zik ?_) λr3 _=> .c (λh2=> .kt (.s ⟨?_,?_,?_,?_,?_,?_⟩))
  λh2=> .c (λh3=> .s ⟨?_,?_,?_,?_,?_,?_⟩)
  λh3=> .m (nA ?_) (have:=SH a0.D; .b (zi3 ?_ ?_) λr5 MV=> .m (nA ?_) (.m (nA ?_) (.b (zex ?_ ?_) λr8 RW=> .b (zeX ?_ ?_) λr9 tX=> .m (nA ?_) (have:=zcm (uC a0.D).2;have:=@zbI (uC a0.D).2; .s ⟨?_,?_,?_,?_,?_,?_⟩)))))
 all_goals first|trivial|((try simp only[NB]at *)<;>omega)|grind [eA,mA,wB,gF,CO,iH,VE,gC,RC,ND,EA,lD,rC,sE]
def zn5{a0 a1 a2 a3}(ha:wB a0=true)(hb:eA a1 0 1000000=true)(hc:EA a2=true)(hd:TA a3=true):Ok (Gi a0 a1 a2 a3) λr=>wB r.1=true∧r.1.Psks=a0.Psks∧CE r.2.1∧(r.2.1.length≤2∧wt r.2.1≤1000)∧WB r.2.2∧r.2.2.length≤8:=by
 unfold Gi;refine have:=BF ha;have hs:=nE.1 ha;have:=hs.jar;have:=hs.tab;have:=LC hd;have hf3:=@zlZ a3 hd;have hw:=QB a0.T.L;have hp:=QB a0.Psks;
 .j0 (.b (zqo ?_) λr3 sW=> .c (λh1=> .kt (.s ⟨?_,?_,?_,?_,?_,?_⟩))
  λh1=> .c (λh2=> .kt (.s ⟨?_,?_,?_,?_,?_,?_⟩))
  λh2=> .bm ?_ ?_ λe4 YY zY=>have:=hs.psk e4 YY; .b (zpk ?_) λr5 _=> .c (λh3=> .s ⟨?_,?_,?_,?_,?_,?_⟩)
  λh3=> .m (nA ?_) (have:=mO a0.T a3.Sn; .j (λy7:(List Ad)×Ac×Ac=>WB y7.1∧y7.1.length≤3∧wB y7.2.2=true∧y7.2.2.Psks=a0.Psks∧0≤XB y7.2.2.T a3.Sn) (λy7 MY=>have⟨hn7,hm7,hs7,hp7,hf7⟩:=MY;have:=BF hs7;have S:=nE.1 hs7;have:=S.tab;have:=eE hn7; .m (nA ?_) (have:=mO y7.2.2.T a3.Sn; .bm ?_ ?_ λe22 KZ P3=>have OX:=(JE.1 S.tab).el _ KZ;have:=fF OX; .j0 (.c (λh4=> .kt (.s ⟨?_,?_,?_,?_,?_,?_⟩))
  λh4=> .c (λh5=> .kt (.s ⟨?_,?_,?_,?_,?_,?_⟩))
  λh5=> .m (nA ?_) (.c (λh6=> .s ⟨?_,?_,?_,?_,?_,?_⟩)
  λh6=> .b (zib ?_) λr26 BY=>have:=fF BY.1.1;have:=eE BY.2.2.2.1; .b (zaO ?_ ?_) λr27 bZ=>have Q3:=VH (d:=⟨y7.2.2.Psks,y7.2.2.J,y7.2.2.D,r27.1,y7.2.2.Cr⟩) hs7 rfl S.jar S.dice bZ.1 S.cr (λe he=>(bZ.2.1 e he).elim (S.id e) λh=>by rw[h,BY.1.2.1];exact S.id _ KZ);have HW:=sE.2 ⟨hn7,BY.2.2.2.1⟩; .g ?_ (.s ⟨?_,?_,?_,?_,?_,?_⟩)))))
  λk8 eW=> .c (λh7=> .bm ?_ ?_ λe9 qZ gY=>have hpk:=hs.psk e9 qZ; .b (zpl ?_ ?_ ?_ ?_ ?_) λr10 tW=>have:=fF tW.1;have O5:=SC (kN tW.1 tW.2.2.2.2).1; .b (zid ?_ ?_) λr11 NW=>have Q3:=VH (d:=⟨a0.Psks,a0.J,a0.D,r11.1,a0.Cr⟩) ha rfl hs.jar hs.dice NW.1 hs.cr (λe he=>(NW.2.1 e he).elim (hs.id e) λh=>by rw[h,tW.2.1];simp at h2;omega); .c (λh8=> .s ⟨?_,?_,?_,?_,?_,?_⟩)
  λh8=> .b (zex ?_ ?_) λr12 TX=> .b (zbC ?_ ?_ ?_) λr13 IZ=> .b zem λr14 ZY=> .b (zep ?_ ?_ ?_) λr15 iY=> .b (zbC ?_ ?_ ?_) λr16 WX=>have HW:WB [r13,r16,(⟨4,a3.Id,0,a3.Cn,a3.Sn,0,0,[],r10.C.Cur.Key,a2,a1⟩:Ad)]:=lD.2 ⟨IZ,lD.2 ⟨WX,lD.2 ⟨by grind [gC,RC,ND,eA],rC⟩⟩⟩;have:=eE HW; .m (nA ?_) (.m (nA ?_) (.m (nA ?_) (.g ?_ (eW _ ⟨?_,?_,?_,?_,?_⟩)))))
  λh7=>eW _ ⟨?_,?_,?_,?_,?_⟩))
 all_goals first|trivial|assumption|exact iH|exact rC|exact HW|((try simp only[NB]at *)<;>(try simp(disch:=omega) only[DA,RA]at *)<;>omega)|grind [eA,mA,CO,iH,zgq,gC,RC,ND,EA,lD,rC,sE]
end Go.D
namespace Go.D
def zp5{a0 a1 a2}(ha:wt a0≤1000000000)(hb:wt a2≤1000000000):Ok (Fg a0 a1 a2) λr=>r.1.length≤a2.Body.length:=by
 unfold Fg
 refine .b (AP ?_) λr1 LV=> .j0 (.c (λh1=> .kt (.s ?_))
  λh1=> .c (λh2=> .kt (.s ?_))
  λh2=> .b SU λr4 NV=> .b (zeD ?_ ?_) λr5 _=> .c (λh3=> .s ?_)
  λh3=> .b (zeH ?_) λr6 AW=> .b (zfl ?_ ?_) λr7 IW=> .s ?_)
 all_goals first|trivial|((try simp only[NB]at *)<;>omega)|grind [eA,mA]
def zpF{a0 a1 a2}(ha:cC a0=true)(hb:wt a2≤1000):Ok (Dr a0 a1 a2) λr=>cC r.1=true∧(r.1.N=a0.N∧r.1.Key=a0.Key∧r.1.Seq=a0.Seq)∧r.2.1.length≤a2.Body.length:=by
 unfold Dr;refine have:=epF ha;
 .m (nA ?_) (.j0 (.c (λh1=> .kt (.s ⟨?_,?_,?_⟩))
  λh1=>have:=epF (nf h1); .b (AP ?_) λr4 NV=> .c (λh2=> .kt (.s ⟨?_,?_,?_⟩))
  λh2=> .c (λh3=> .s ⟨?_,?_,?_⟩)
  λh3=> .b (za0 ?_) λr5 MV=> .c (λh4=> .s ⟨?_,?_,?_⟩)
  λh4=> .b (zp5 ?_ ?_) λr6 AW=> .c (λh5=> .s ⟨?_,?_,?_⟩)
  λh5=> .s ⟨?_,?_,?_⟩))
 all_goals first|trivial|((try simp only[NB]at *)<;>omega)|grind [eA,mA,cC]
def zaH{a0 a1 a2}(ha:rB a0=true)(hb:wt a2≤1000):Ok (Ba a0 a1 a2) λr=>rB r.1=true∧(r.1.Role=a0.Role∧r.1.Sn=a0.Sn)∧(r.1.Next=a0.Next∧r.1.Cur.N=a0.Cur.N∨r.1.Next=[]∧r.1.Cur.N≠a0.Cur.N)∧r.2.1.length≤a2.Body.length∧(r.2.2=0→TA a2=true∧nB a2.Kind=true∧eA a1 0 1000000=true):=by
 unfold Ba;refine have:=SC ha;have i1:=@DA a0.Cur.N 1;have i2:=@RA a0.Cur.N 1;have i3:=@DA a1 5;
 .m (nA ?_) (.j0 (.m (nA ?_) (.c (λh1=> .kt (.s ⟨?_,?_,?_,?_,?_⟩))
  λh1=>have:=SC (nf h1); .c (λh2=> .kt (.s ⟨?_,?_,?_,?_,?_⟩))
  λh2=> .c (λh3=> .kt (.s ⟨?_,?_,?_,?_,?_⟩))
  λh3=> .m (nA ?_) (.c (λh4=> .s ⟨?_,?_,?_,?_,?_⟩)
  λh4=>have:=LC (nf h4); .j (λy6:Bool=>y6=true→a0.HasOld=true∧a2.Epoch=a0.Old.N) (λy6 rZ=> .j (λy8:Bool=>y8=true→a0.Next.length>0∧a2.Epoch=fA .i64 a0.Cur.N 1) (λy8 hy8=> .j (λy10:Bool=>y10=false→(a2.Epoch=a0.Cur.N∨y6=true∨y8=true)) (λy10 VX=> .c (λh5=> .s ⟨?_,?_,?_,?_,?_⟩)
  λh5=> .jt (λy13=> .c (λh6=> .s ⟨?_,?_,?_,?_,?_⟩)
  λh6=> .j (λy15:Av=>cC y15=true∧(y6=true∧y15=a0.Old∨y6=false∧y15=a0.Cur)) (λy15 Q0=> .j (λy17:Av=>cC y17=true∧(y8=true∧y17.N=a0.Cur.N+1∨y8=false∧(y6=true∧y17=a0.Old∨y6=false∧y17=a0.Cur))) (λy17 D1=> .b (zpF ?_ ?_) λr20 M0=>have i4:=@RA r20.1.N 1; .c (λh7=> .s ⟨?_,?_,?_,?_,?_⟩)
  λh7=> .j (λy21:Aj=>rB y21=true∧(y21.Role=a0.Role∧y21.Sn=a0.Sn)∧(y21.Next=a0.Next∧y21.Cur.N=a0.Cur.N∨y21.Next=[]∧y21.Cur.N≠a0.Cur.N)) (λy21 hy21=> .s ⟨?_,?_,?_,?_,?_⟩)
  λk22 JX=> .c (λh8=> .j0 (.c (λh9=> .j0 (.c (λgW=>JX _ ⟨?_,?_,?_⟩)
  λgW=>JX _ ⟨?_,?_,?_⟩))
  λh9=> .j0 (.kf (JX _ ⟨?_,?_,?_⟩))))
  λh8=> .j0 (.c (λrW=>JX _ ⟨?_,?_,?_⟩)
  λrW=>JX _ ⟨?_,?_,?_⟩))
  λk18 eX=> .c (λFW=> .b (zbc ?_ ?_) λr19 HZ=>eX _ ⟨?_,?_⟩)
  λFW=>eX _ ⟨?_,?_⟩)
  λk16 qW=> .c (λXW=>qW _ ⟨?_,?_⟩)
  λXW=>qW _ ⟨?_,?_⟩)
  λk14 GV=> .c (λXX=> .c (λlY=>GV _)
  λlY=>GV _)
  λXX=>GV _)
  λk11 cW=> .b (zi1 ?_ ?_) λr12 _=> .c (λqY=>cW _ ?_)
  λqY=> .c (λIY=> .c (λJ1=>cW _ ?_)
  λJ1=>cW _ ?_)
  λIY=>cW _ ?_)
  λk9 wX=> .c (λwZ=>wX _ ?_)
  λwZ=>wX _ ?_)
  λk7 CW=> .c (λxZ=>CW _ ?_)
  λxZ=>CW _ ?_))))
 all_goals first|trivial|((try simp only[NB]at *)<;>(try simp(disch:=omega) only[DA,RA]at *)<;>omega)|grind [eA,mA,rB,DG]
def ziu{a0 a1}(ha:rB a0=true):Ok (Gj a0 a1) λr=>r.1.length=0∨r.1.length=32:=by
 unfold Gj;refine have:=SC ha;
 .m (nA ?_) (.c (λh1=> .s ?_)
  λh1=>have:=SC (nf h1); .j (λy2:Bool=>y2=true→a0.HasOld=true) (λy2 lW=> .c (λh2=> .m (nA ?_) (.s ?_))
  λh2=> .c (λh3=> .m (nA ?_) (.s ?_))
  λh3=> .j0 (.c (λh4=> .c (λh5=> .m (nA ?_) (.s ?_))
  λh5=> .s ?_)
  λh4=> .kf (.s ?_)))
  λk3 CV=> .c (λh6=>CV _ ?_)
  λh6=>CV _ ?_)
 all_goals first|trivial|((try simp only[NB]at *)<;>(try simp(disch:=omega) only[DA,RA]at *)<;>omega)|grind [eA,mA,rB,cC,DG]
def zqc{a0 a1 a2 a3}(ha:VB a0=true)(hb:wt a3≤1000):Ok (Ei a0 a1 a2 a3) λr=>VB r.1=true:=by
 unfold Ei;refine have:=oI ha;have hw:=QB a0.Cands;
 .m (nA ?_) (.m (nA ?_) (have:=zko a0 a2; .j0 (.c (λh1=> .kt (.s ?_))
  λh1=>have:=oI (nf h1); .c (λh2=> .kt (.s ?_))
  λh2=> .c (λh3=> .kt (.s ?_))
  λh3=> .bm ?_ ?_ λe5 iX dX=> .m (nA ?_) (.c (λh4=> .kt (.s ?_))
  λh4=> .bm ?_ ?_ λe7 UZ yY=> .c (λh5=> .s ?_)
  λh5=> .h ?_ (.h ?_ (.g (have:=dE a0.Cands (((uD a0 a2) - 0).toNat);have:=dE (List.drop ((fA .i64 (uD a0 a2) 1).toNat) a0.Cands) (((a0.Cands.length:Int) - (fA .i64 (uD a0 a2) 1)).toNat);have:=qF a0.Cands ((fA .i64 (uD a0 a2) 1).toNat);?_) (.s (have:=dE a0.Cands (((uD a0 a2) - 0).toNat);have:=dE (List.drop ((fA .i64 (uD a0 a2) 1).toNat) a0.Cands) (((a0.Cands.length:Int) - (fA .i64 (uD a0 a2) 1)).toNat);have:=qF a0.Cands ((fA .i64 (uD a0 a2) 1).toNat);?_))))))))
 all_goals first|trivial|exact zrK ha (by simp at h3;omega)|((try simp only[NB]at *)<;>(try simp(disch:=omega) only[DA,RA]at *)<;>omega)|grind [eA,mA]
def zrF{a0}(ha:rB a0=true):Ok (Fh a0) λr=>rB r.1=true∧(r.1.Role=a0.Role∧r.1.Sn=a0.Sn):=by
 unfold Fh;refine have:=SC ha;
 .m (nA ?_) (.j0 (.m (nA ?_) (.c (λh1=> .kt (.s ⟨?_,?_⟩))
  λh1=>have:=SC (nf h1); .c (λh2=> .kt (.s ⟨?_,?_⟩))
  λh2=> .c (λh3=> .s ⟨?_,?_⟩)
  λh3=> .m (nA ?_) (have:=GM a0.Cur.Key [114,101,107,101,121];have:=@xL a0.Cur.Key [114,101,107,101,121]; .b (zbc ?_ ?_) λr6 AW=> .s ⟨?_,?_⟩))))
 all_goals first|trivial|((try simp only[NB]at *)<;>(try simp(disch:=omega) only[DA,RA]at *)<;>omega)|grind [eA,mA,rB,DG,DA,RA]
def zoo{a0 a1 a2}(ha:rB a0=true)(hb:wt a2≤1000):Ok (Fi a0 a1 a2) λr=>rB r.1=true∧(r.1.Role=a0.Role∧r.1.Sn=a0.Sn):=by
 unfold Fi;refine have:=SC ha;
 .m (nA ?_) (.j0 (.m (nA ?_) (.c (λh1=> .kt (.s ⟨?_,?_⟩))
  λh1=>have:=SC (nf h1); .c (λh2=> .kt (.s ⟨?_,?_⟩))
  λh2=> .c (λh3=> .kt (.s ⟨?_,?_⟩))
  λh3=> .b zeo λr5 MV=> .m (nA ?_) (.c (λh4=> .s ⟨?_,?_⟩)
  λh4=> .c (λh5=> .s ⟨?_,?_⟩)
  λh5=> .b (zrF ?_) λr7 IW=> .j0 (.c (λh6=> .kt (.s ⟨?_,?_⟩))
  λh6=> .c (λh7=> .s ⟨?_,?_⟩)
  λh7=> .s ⟨?_,?_⟩)))))
 all_goals first|trivial|((try simp only[NB]at *)<;>(try simp(disch:=omega) only[DA,RA]at *)<;>omega)|grind [eA,mA]
def zow{a0 a1 a2}(ha:TB a0=true)(hb:a0.Dead=false)(hc:wt a2≤1000):Ok (Gk a0 a1 a2) λr=>BE a0 r.1∧CE r.2.1∧(r.2.1.length≤1∧wt r.2.1≤400)∧WB r.2.2∧r.2.2.length≤2∧r.1.Dead=false:=by
 unfold Gk;refine have:=fF ha;have hl:=kN ha hb;have:=pO ha;
 .b (zoo ?_ ?_) λr1 LV=>have:=SC LV.1; .c (λh1=> .s ⟨?_,?_,?_,?_,?_,?_⟩)
  λh1=> .j (λy2:(List Ad)=>WB y2∧y2.length≤1) (λy2 lW=>have:=eE lW.1; .b (zjE ?_) λr7 IW=> .c (λh2=> .s ⟨?_,?_,?_,?_,?_,?_⟩)
  λh2=> .b (nM ?_ ?_) λr8 RW=>have HW:=sE.2 ⟨lW.1,lD.2 ⟨RW,rC⟩⟩;have:=jT RW; .g ?_ (.s ⟨?_,?_,?_,?_,?_,?_⟩))
  λk3 CV=> .c (λh3=> .m (nA ?_) (.m (nA ?_) (.g ?_ (CV _ ⟨?_,?_⟩))))
  λh3=>CV _ ⟨?_,?_⟩
 all_goals first|trivial|exact TM ha (by grind) (by grind) (by grind) hl.2.2.2.1 hl.2.2.2.2.2 hb|((try simp only[NB]at *)<;>omega)|grind [eA,mA,TM,CO,iH,gC,RC,ND,EA,lD,rC,sE]
def zhG{a0 a1}(ha:VB a0=true):Ok (Cu a0 a1) λr=>VB r=true∧r.At=a0.At:=by
 have hL:=yB;have hf:=oI ha;unfold Cu;refine .m (nA (by omega)) (.j (λy:Ai=>y.At=a0.At∧y.Cands.Sublist a0.Cands) (λy hy=> .s ⟨?_,hy.1⟩) λk hk=> .l (λx:Int×Ai=>∃i:Nat,x.1=(i:Int)∧i≤a0.Cands.length∧x.2.At=a0.At∧x.2.Cands.Sublist (a0.Cands.take i)) (λx:Int×Ai=>((a0.Cands.length:Int) - x.1).toNat) (λx hx k' vW=>?_) ⟨0,rfl,Nat.zero_le _,rfl, .slnil⟩ (by simp only;omega))
 ·have:=zuD ha hy.2;rwa [←hy.1]at this
 ·obtain⟨i,h1,h2,h3,h4⟩:=hx;have hs:=h4.trans (List.take_sublist _ _);refine .c (λh=>?_) λ_=>hk _ ⟨h3,hs⟩;simp only[B]at h;have R3:fA .i64 x.1 1=((i+1:Nat):Int):=by rw[h1,DA (by omega) (by omega)];omega
  refine .h (by simp only[B];omega) ?_;rw[show x.1.toNat=i by omega];refine .bg (by omega) λe he hew=>?_;have ht:=take_succ he;have hl:=hs.length_le;refine .j (λy:Ai=>y.At=a0.At∧y.Cands.Sublist (a0.Cands.take (i+1))) (λy hy=>vW _ ⟨i+1,R3,by omega,hy.1,hy.2⟩ (by simp only[R3];omega)) λk2 BV=> .c (λ_=> .g ?_ (BV _ ⟨h3,?_⟩)) λ_=>BV _ ⟨h3,?_⟩
  ·have:wt x.2.Cands≤39 *3:=by
    have:=OM 38 x.2.Cands λc hc=>by have:=zad (hs.subset hc);simp only[N]at hf this⊢;omega
    simp only[N]at hf;omega
   simp only[N]at hf hew⊢;omega
  ·rw[ht];exact h4.append (.refl _)
  ·rw[ht];exact h4.trans (List.sublist_append_left _ _)
def zqB{a0 a1 a2 a3}(ha:VB a0=true)(hb:a3.length≤100):Ok (Cv a0 a1 a2 a3) λr=>VB r.1=true∧r.1.At=a0.At∧(r.2=true→EA a2=true):=by
 unfold Cv;refine have:=oI ha;
 .j0 (.c (λh1=> .kt (.m (nA ?_) (.s ⟨?_,?_,?_⟩)))
  λh1=>have:=oI (nf h1); .c (λh2=> .kt (.m (nA ?_) (.s ⟨?_,?_,?_⟩)))
  λh2=> .c (λh3=> .kt (.m (nA ?_) (.s ⟨?_,?_,?_⟩)))
  λh3=>have:=EF (nf h3); .c (λh4=> .kt (.m (nA ?_) (.s ⟨?_,?_,?_⟩)))
  λh4=>have:=lK (nf h4); .c (λh5=> .m (nA ?_) (.s ⟨?_,?_,?_⟩))
  λh5=> .b (zhG ?_) λr5 MV=>have:=oI MV.1;have hap:=@zt9 r5 a2 a3 a1 MV.1; .j0 (.m (nA ?_) (have:=zko r5 a2; .c (λh6=> .kt (.m (nA ?_) (.s ⟨?_,?_,?_⟩)))
  λh6=> .c (λh7=> .m (nA ?_) (.s ⟨?_,?_,?_⟩))
  λh7=> .m (nA ?_) (.g ?_ (.s ⟨?_,?_,?_⟩)))))
 all_goals first|trivial|((try simp only[NB]at *)<;>(try simp(disch:=omega) only[DA,RA]at *)<;>omega)|grind [eA,mA,cS]
end Go.D

/-
 The two machines agree.
-/
import Derived.Test.YtfealdecpglcnaaGreatX1
set_option linter.all false
namespace Go.D
set_option maxHeartbeats 2000000
instance{a0}:LA (Bm a0) (Ax a0):=⟨by unfold Ax Bm;simp only[zgH];((try simp only[QC,OO,JB,kT,zc2]);repeat' (first|(with_reducible first|intro _|exact .r0|apply mB|apply iC|apply MB|apply iB|refine .ct ‹_› ?_|refine .cf ‹_› ?_)|(with_reducible first|apply mC|apply VG)|(refine .s ?_;grind [mA,GA,eA,jC,oC,List.length_eq_zero_iff,zk8])|dsimp only[cond_true,cond_false]));(refine Ag.lI (λx=>∃i:Nat,x=(λi:Nat=>([UInt8.ofNat (IntKind.u8.wrap a0.Kind).toNat]++[UInt8.ofNat (IntKind.u8.wrap a0.Id).toNat]++a0.Cn++List.replicate i 0,(i:Int))) i∧i≤20) ⟨0,by first|rfl|simp,by decide⟩ (λx k hx hk=>?_) _;obtain⟨i,hx,h2⟩:=hx;have hi:(i:Int)<20→fA .i64 (i:Int) 1=((i+1:Nat):Int):=λh=>(by rw[DA (by omega) (by omega)];omega);subst hx;refine .cr (λhc=> .gr λ_=>hk _ ⟨i+1,?_,?_⟩) λhc=>?_;(· simp only[B]at hc;simp[hi hc,List.replicate_succ']);(· simp only[B]at hc;omega);have he:i=20:=(by simp only[B]at hc;omega);subst he;try dsimp only);(repeat' ((refine .s ?_;grind [mA,GA,eA,jC,oC,List.length_eq_zero_iff])))⟩
instance{a0 a1 a2}:LA (Fn a0 a1 a2) (Dm a0 a1 a2):=⟨by unfold Dm Fn;(repeat' ((with_reducible first|intro _|exact .r0|refine .bd inferInstance ?_)))⟩
instance{a0 a1}:LA (Et a0 a1) (Br a0 a1):=⟨by unfold Br Et;((try simp only);repeat' ((with_reducible first|intro _|exact .r0|refine .bd inferInstance ?_|apply vD|apply MB|apply iB|apply VL|apply HC|(apply_assumption;done))))⟩
instance{a0}:LA (Bi a0) (Bi a0):=⟨.r0⟩
instance{a0}:LA (Fm a0) (Ig a0):=⟨by unfold Ig Fm;((try simp only[yA,List.nil_append]);repeat' ((with_reducible first|intro _|exact .r0|apply mB|apply MB)))⟩
instance{a0 a1 a2}:LA (Gw a0 a1 a2) (Jj a0 a1 a2):=⟨by unfold Jj Gw;((try simp only[kA,yA,qD,List.nil_append]);repeat' ((with_reducible first|intro _|exact .r0|apply mB|apply iC|refine .bd inferInstance ?_|apply MB|apply iB|apply HC|(apply_assumption;done))))⟩
instance{a0 a1 a2 a3}:LA (Cm a0 a1 a2 a3) (Cq a0 a1 a2 a3):=⟨by unfold Cq Cm;((try simp only[JB,OO]);repeat' (first|(with_reducible first|intro _|exact .r0|apply mB|apply iC|apply MB|apply iB|apply HC|(apply_assumption;done)|apply mC|refine .ct ‹_› ?_|refine .cf ‹_› ?_|apply iG)|(refine .s ?_;rfl)|(refine .kk ‹_› ?_;grind [mA,GA,eA])))⟩
instance{a0 a1 a2}:LA (Gv a0 a1 a2) (Ih a0 a1 a2):=⟨by unfold Ih Gv;((try simp only[zgo,JB]);repeat' ((with_reducible first|intro _|exact .r0|apply mB|apply iC|apply MB|apply iB|apply HC|(apply_assumption;done))))⟩
instance{a0 a1 a2}:LA (Er a0 a1 a2) (Eb a0 a1 a2):=⟨by unfold Eb Er;((try simp only[yA,List.nil_append]);repeat' ((with_reducible first|intro _|exact .r0|apply mB|refine .bd inferInstance ?_|apply vD|apply MB|apply iB|apply VL|apply HC|(apply_assumption;done))))⟩
instance{a0 a1 a2}:LA (Es a0 a1 a2) (Ch a0 a1 a2):=⟨by unfold Ch Es;((try simp only);repeat' (first|(with_reducible first|intro _|apply ZE|apply cF|exact .r0|refine .bd inferInstance ?_|apply vD|apply MB|apply iB|apply VL|apply HC|(apply_assumption;done))|(with_reducible refine Ag.cr (λ_=>?_) (λ_=>?_)<;>try (exfalso;grind (splits:=3) [mA,GA,eA,zgV, →zfp];done))|(with_reducible first|apply iD|apply mC|refine .bR ‹_› ?_|apply zE)|(refine .kk ‹_› ?_;grind [mA,GA,eA,zgV, →zfp])|(exfalso;grind [mA,GA,eA,zgV, →zfp])))⟩
instance{a0 a1}:LA (Ce a0 a1) (Bq a0 a1):=⟨by unfold Bq Ce;((try simp only[OO,QC]);repeat' (first|(with_reducible first|intro _|exact .r0|apply mB|refine .bd inferInstance ?_|apply MB|apply iB|apply HC|(apply_assumption;done)|apply mC|apply iG)|(refine .kk ‹_› ?_;grind [mA,GA,eA])))⟩
instance{a0 a1}:LA (Dd a0 a1) (Ci a0 a1):=⟨by unfold Ci Dd;((try simp only[yA,List.nil_append]);repeat' (first|(with_reducible first|intro _|exact .r0|apply mB|apply vD|apply MB|apply mC|apply iG)|(refine .s ?_;grind [mA,GA,eA,jC,oC,List.length_eq_zero_iff])))⟩
instance{a0 a1 a2 a3 a4 a5 a6}:LA (Fl a0 a1 a2 a3 a4 a5 a6) (Cj a0 a1 a2 a3 a4 a5 a6):=⟨by unfold Cj Fl;rw[show List.replicate (16:Int).toNat (UInt8.ofNat (0:Int).toNat)=List.replicate 16 0 from rfl];((try simp only[yA,QC,List.nil_append]);repeat' (first|(with_reducible first|intro _|apply ZE|apply cF|exact .r0|apply mB|refine .bd inferInstance ?_|apply MB|refine .ct ‹_› ?_|refine .cf ‹_› ?_)|(with_reducible refine Ag.cr (λ_=>?_) (λ_=>?_)<;>try (exfalso;grind (splits:=3) [mA,GA,eA, →zfd,TA,tE];done))|(with_reducible first|apply iD|apply mC|apply VG|apply zE)|(exfalso;grind [mA,GA,eA, →zfd,TA,tE])|dsimp only[cond_true,cond_false]));all_goals ((refine Ag.lI (λx=>∃i:Nat,x=(λi:Nat=>((i:Int),(⟨a5,0,[],a2,0,[],[],a3,a4,_,List.replicate i 0⟩:Ab))) i∧i≤16) ⟨0,by first|rfl|simp,by decide⟩ (λx k hx hk=>?_) _;obtain⟨i,hx,h2⟩:=hx;have hi:(i:Int)<16→fA .i64 (i:Int) 1=((i+1:Nat):Int):=λh=>(by rw[DA (by omega) (by omega)];omega);subst hx;refine .cr (λhc=> .gr λ_=>hk _ ⟨i+1,?_,?_⟩) λhc=>?_;(· simp only[B]at hc;simp[hi hc,List.replicate_succ']);(· simp only[B]at hc;omega);have he:i=16:=(by simp only[B]at hc;omega);subst he;try dsimp only);(repeat' (first|(with_reducible first|intro _|exact .r0)|with_reducible refine .bT inferInstance ‹_› ?_)))⟩
instance{a0 a1 a2 a3 a4}:LA (Gx a0 a1 a2 a3 a4) (Ck a0 a1 a2 a3 a4):=⟨by unfold Ck Gx;((try simp only[kA]);repeat' (first|(with_reducible first|intro _|apply ZE|apply cF|exact .r0|apply mB|apply iC|apply iB|refine .ct ‹_› ?_|refine .cf ‹_› ?_)|(with_reducible refine Ag.cr (λ_=>?_) (λ_=>?_)<;>try (exfalso;grind (splits:=3) [mA,GA,eA, →zlI, →zfd,TA,tE,cC];done))|(with_reducible first|apply iD|apply mC|refine .bT inferInstance ‹_› ?_|apply zE)))⟩
instance{a0 a1 a2}:LA (Cp a0 a1 a2) (Bh a0 a1 a2):=⟨by unfold Bh Cp;cases a0;((try simp only[kA,lC]);repeat' (first|(with_reducible first|intro _|exact .r0|apply mB|apply iC|refine .bd inferInstance ?_|apply iB)|with_reducible apply iG|with_reducible apply VG|(refine .s ?_;grind [mA,GA,eA,jC,oC,List.length_eq_zero_iff, →zj8])))⟩
instance{a0 a1}:LA (Eu a0 a1) (Fc a0 a1):=⟨by unfold Fc Eu;((try simp only[yA,List.nil_append]);repeat' ((with_reducible first|intro _|exact .r0|apply mB|apply MB)))⟩
instance{a0 a1}:LA (Bu a0 a1) (Bz a0 a1):=⟨by unfold Bz Bu;(repeat' ((with_reducible first|intro _|exact .r0|refine .bd inferInstance ?_)))⟩
instance{a0 a1 a2}:LA (Gy a0 a1 a2) (Ec a0 a1 a2):=⟨by unfold Ec Gy;((try simp only[kA,yA,qD,List.nil_append]);repeat' ((with_reducible first|intro _|exact .r0|apply mB|apply iC|refine .bd inferInstance ?_|apply MB|apply iB|apply HC|(apply_assumption;done))))⟩
instance{a0}:LA (Dx a0) (Dx a0):=⟨.r0⟩
instance{a0}:LA (Bp a0) (Bp a0):=⟨.r0⟩
instance{a0}:LA (Fq a0) (Ii a0):=⟨by unfold Ii Fq;((try simp only[kA,lC]);repeat' ((with_reducible first|intro _|exact .r0|apply mB|apply iC|refine .bd inferInstance ?_|apply iB|apply HC|(apply_assumption;done))))⟩
instance{a0 a1}:LA (Hg a0 a1) (Jk a0 a1):=⟨by unfold Jk Hg;((try simp only[kA,qD]);repeat' ((with_reducible first|intro _|exact .r0|apply mB|apply iC|refine .bd inferInstance ?_|apply iB|apply HC|(apply_assumption;done))))⟩
instance{a0 a1}:LA (Bw a0 a1) (Bw a0 a1):=⟨.r0⟩
instance{a0}:LA (Ib a0) (Jl a0):=⟨by unfold Jl Ib Fd Dl Dw;((try simp only[qD,kA,yA,ba,bs,fK,List.nil_append]);repeat' (first|(with_reducible first|intro _|exact .r0|apply mB|apply iC|apply MB|apply iB)|with_reducible apply iG|with_reducible apply mC|(refine .s ?_;grind [mA,GA,eA,jC,oC,List.length_eq_zero_iff,zhD])))⟩
instance{a0}:LA (Ea a0) (Ea a0):=⟨.r0⟩
instance{a0 a1 a2}:LA (Hh a0 a1 a2) (Fe a0 a1 a2):=⟨by unfold Fe Hh;generalize (VA a0 a1).toNat=n;((try simp only[kA,List.nil_append]);repeat' (first|(with_reducible first|intro _|apply ZE|apply cF|exact .r0|apply mB|refine .bd inferInstance ?_|apply vD|apply MB|apply iB)|(with_reducible refine Ag.cr (λ_=>?_) (λ_=>?_)<;>try (exfalso;grind (splits:=3) [mA,GA,eA,HD,cJ,List.set_set];done))|(with_reducible first|apply zg2|apply iD|apply mC|apply VG|refine .bR ‹_› ?_|apply zE)|(refine .s ?_;grind [mA,GA,eA,jC,oC,List.length_eq_zero_iff,HD,cJ,List.set_set])))⟩
instance{a0}:LA (Ev a0) (Cb a0):=⟨by exact zq4⟩
instance{a0 a1}:LA (Dy a0 a1) (Dn a0 a1):=⟨by unfold Dn Dy;((try simp only);repeat' ((with_reducible first|intro _|exact .r0|apply iB|apply VL|apply HC|(apply_assumption;done)|apply iD|apply mC|refine .bR ‹_› ?_|refine .ct ‹_› ?_|refine .cf ‹_› ?_)))⟩
instance{a0}:LA (Fa a0) (Cy a0):=⟨by unfold Cy Fa;(repeat' ((with_reducible first|intro _|exact .r0|refine .bd inferInstance ?_)))⟩
instance{a0 a1}:LA (Bc a0 a1) (Bc a0 a1):=⟨.r0⟩
instance{a0 a1 a2}:LA (Fb a0 a1 a2) (Cz a0 a1 a2):=⟨by unfold Cz Fb;((try simp only[kA,List.nil_append]);repeat' ((with_reducible first|intro _|exact .r0|apply mB|apply MB|apply iB|apply HC|(apply_assumption;done)|apply iD|apply mC|refine .bT inferInstance ‹_› ?_|refine .ct ‹_› ?_|refine .cf ‹_› ?_|apply iG)))⟩
instance{a0 a1}:LA (Hi a0 a1) (Ik a0 a1):=⟨by unfold Ik Hi;((try simp only[yA,JB,List.nil_append]);repeat' ((with_reducible first|intro _|exact .r0|apply mB|apply MB|apply iB)))⟩
instance{a0 a1 a2 a3 a4}:LA (Ew a0 a1 a2 a3 a4) (Ff a0 a1 a2 a3 a4):=⟨by unfold Ff Ew;((try simp only[JB,kT]);repeat' (first|(with_reducible first|intro _|exact .r0|apply mB|apply iC|refine .bd inferInstance ?_|apply MB|apply iB|apply HC|(apply_assumption;done)|apply mC|apply iG)|(refine .s ?_;rfl)|(refine .kk ‹_› ?_;grind [mA,GA,eA])))⟩
instance{a0 a1 a2 a3 a4 a5}:LA (Fu a0 a1 a2 a3 a4 a5) (Gf a0 a1 a2 a3 a4 a5):=⟨by unfold Gf Fu;(repeat' ((with_reducible first|intro _|exact .r0|refine .bd inferInstance ?_|apply iB|apply HC|(apply_assumption;done))))⟩
instance{a0 a1 a2}:LA (Ft a0 a1 a2) (Ed a0 a1 a2):=⟨by unfold Ed Ft;(repeat' ((with_reducible first|intro _|exact .r0|refine .bd inferInstance ?_|apply iB|apply HC|(apply_assumption;done))))⟩
instance{a0}:LA (Fy a0) (Eh a0):=⟨by unfold Eh Fy;((try simp only[kA,lC]);repeat' ((with_reducible first|intro _|exact .r0|apply mB|apply iC|refine .bd inferInstance ?_|apply iB|apply HC|(apply_assumption;done))))⟩
instance{a0}:LA (Hp a0) (Dq a0):=⟨by unfold Dq Hp;((try simp only[kA,ED]);repeat' ((with_reducible first|intro _|exact .r0|apply mB|apply iC|refine .bd inferInstance ?_|apply iB|apply HC|(apply_assumption;done))))⟩
instance{a0}:LA (Dh a0) (Dh a0):=⟨.r0⟩
instance{a0 a1}:LA (Cg a0 a1) (Cg a0 a1):=⟨.r0⟩
instance{a0 a1 a2}:LA (Hl a0 a1 a2) (In a0 a1 a2):=⟨by unfold In Hl;((try simp only[zgo,List.nil_append]);repeat' (first|(with_reducible first|intro _|exact .r0|apply mB|refine .bd inferInstance ?_|apply MB|apply iB|apply HC|(apply_assumption;done)|apply mC|apply iG)|(refine .kk ‹_› ?_;grind [mA,GA,eA])))⟩
instance{a0}:LA (Df a0) (Df a0):=⟨.r0⟩
instance{a0 a1}:LA (Hm a0 a1) (Io a0 a1):=⟨by unfold Io Hm;((try simp only[yA,LE,List.nil_append]);repeat' ((with_reducible first|intro _|exact .r0|apply mB|apply MB|apply iB)))⟩
instance{a0 a1 a2 a3}:LA (Fw a0 a1 a2 a3) (Gh a0 a1 a2 a3):=⟨by unfold Gh Fw;(repeat' (first|(with_reducible first|intro _|exact .r0|refine .bd inferInstance ?_|apply iB)|(refine .s ?_;grind [mA,GA,eA,jC,oC,List.length_eq_zero_iff])))⟩
instance:LA (Hn) (Jo):=⟨by unfold Jo Hn;(repeat' (first|with_reducible apply VG|dsimp only[cond_true,cond_false]));(refine Ag.lI (λx=>∃i:Nat,x=(λi:Nat=>((i:Int),(⟨-1,List.replicate i 0⟩:Ap))) i∧i≤32) ⟨0,by first|rfl|simp,by decide⟩ (λx k hx hk=>?_) _;obtain⟨i,hx,h2⟩:=hx;have hi:(i:Int)<32→fA .i64 (i:Int) 1=((i+1:Nat):Int):=λh=>(by rw[DA (by omega) (by omega)];omega);subst hx;refine .cr (λhc=> .gr λ_=>hk _ ⟨i+1,?_,?_⟩) λhc=>?_;(· simp only[B]at hc;simp[hi hc,List.replicate_succ']);(· simp only[B]at hc;omega);have he:i=32:=(by simp only[B]at hc;omega);subst he;try dsimp only);(repeat' ((refine .s ?_;grind [mA,GA,eA,jC,oC,List.length_eq_zero_iff])))⟩
instance{a0 a1}:LA (Dg a0 a1) (Cl a0 a1):=⟨by unfold Cl Dg;((try simp only[yA,List.nil_append]);repeat' ((with_reducible first|intro _|exact .r0|apply mB|refine .bd inferInstance ?_|apply MB|apply iB|apply HC|(apply_assumption;done))))⟩
instance{a0 a1 a2}:LA (Fx a0 a1 a2) (Ef a0 a1 a2):=⟨by unfold Ef Fx;((try simp only[yA,List.nil_append]);repeat' (first|(with_reducible first|intro _|exact .r0|apply mB|refine .bd inferInstance ?_|apply MB|apply iB|apply HC|(apply_assumption;done)|apply mC|apply iG)|(refine .kk ‹_› ?_;grind [mA,GA,eA])))⟩
instance{a0 a1 a2 a3}:LA (Ho a0 a1 a2 a3) (Dp a0 a1 a2 a3):=⟨by unfold Dp Ho;((try simp only[yA,QC,List.nil_append]);repeat' (first|(with_reducible first|intro _|exact .r0|apply mB|refine .bd inferInstance ?_|apply MB|apply iB|apply HC|(apply_assumption;done)|apply iD|apply mC|refine .bT inferInstance ‹_› ?_|apply iG)|(refine .kk ‹_› ?_;grind [mA,GA,eA])))⟩
instance{a0 a1}:LA (Bk a0 a1) (Bk a0 a1):=⟨.r0⟩
instance{a0 a1 a2}:LA (Dz a0 a1 a2) (Eg a0 a1 a2):=⟨by unfold Eg Dz;((try simp only[yA,List.nil_append]);repeat' ((with_reducible first|intro _|exact .r0|apply mB|apply MB)))⟩
instance{a0}:LA (Bj a0) (Bj a0):=⟨.r0⟩
instance{a0 a1 a2 a3 a4}:LA (Ey a0 a1 a2 a3 a4) (Do a0 a1 a2 a3 a4):=⟨by unfold Do Ey;((try simp only[JB,kT]);repeat' (first|(with_reducible first|intro _|exact .r0|apply mB|apply iC|apply MB|apply iB|apply HC|(apply_assumption;done)|apply mC|refine .ct ‹_› ?_|refine .cf ‹_› ?_|apply iG)|(refine .s ?_;rfl)|(refine .kk ‹_› ?_;grind [mA,GA,eA])))⟩
instance{a0 a1}:LA (De a0 a1) (De a0 a1):=⟨.r0⟩
instance{a0 a1}:LA (Bx a0 a1) (Bx a0 a1):=⟨.r0⟩
instance{a0 a1}:LA (Bn a0 a1) (Bn a0 a1):=⟨.r0⟩
instance{a0 a1 a2 a3}:LA (Hj a0 a1 a2 a3) (Il a0 a1 a2 a3):=⟨by unfold Il Hj;((try simp only[QC]);repeat' (first|(with_reducible first|intro _|exact .r0|apply mB|refine .bd inferInstance ?_|apply iB|apply HC|(apply_assumption;done)|apply mC|apply iG)|(refine .kk ‹_› ?_;grind [mA,GA,eA])))⟩
instance{a0 a1 a2 a3 a4 a5}:LA (Fv a0 a1 a2 a3 a4 a5) (Ee a0 a1 a2 a3 a4 a5):=⟨by unfold Ee Fv;(repeat' ((with_reducible first|intro _|exact .r0|refine .bd inferInstance ?_|apply iB|apply HC|(apply_assumption;done))))⟩
instance{a0 a1}:LA (Hk a0 a1) (Im a0 a1):=⟨by unfold Im Hk;((try simp only[QC]);repeat' ((with_reducible first|intro _|exact .r0|apply mB|apply iB|apply HC|(apply_assumption;done)|apply iD|apply mC|refine .bT inferInstance ‹_› ?_|refine .ct ‹_› ?_|refine .cf ‹_› ?_|apply iG)))⟩
instance{a0 a1}:LA (By a0 a1) (Cs a0 a1):=⟨by unfold Cs By Hq;have h1:=@RA a0.Top 1024;have h2:=@DA (oA .i64 a0.Top 1024) 1;((try simp only[VF,bc,bs]);repeat' (first|(with_reducible first|intro _|apply ZE|apply cF|exact .r0|apply mB|apply iC|apply iB)|(with_reducible refine Ag.cr (λ_=>?_) (λ_=>?_)<;>try (exfalso;grind (splits:=3) [mA,GA,eA,IC];done))|with_reducible apply mC|(refine .s ?_;grind [mA,GA,eA,jC,oC,List.length_eq_zero_iff,IC])))⟩
instance{a0 a1}:LA (Di a0 a1) (Ct a0 a1):=⟨by exact zsT⟩
instance{a0 a1 a2}:LA (Hr a0 a1 a2) (Fg a0 a1 a2):=⟨by unfold Fg Hr;(repeat' ((with_reducible first|intro _|exact .r0|refine .bd inferInstance ?_|apply iB|apply HC|(apply_assumption;done))))⟩
instance{a0 a1 a2}:LA (Dj a0 a1 a2) (Dr a0 a1 a2):=⟨by unfold Dr Dj;((try simp only[kA]);repeat' (first|(with_reducible first|intro _|apply ZE|apply cF|exact .r0|apply mB|apply iC|refine .bd inferInstance ?_|apply iB|refine .ct ‹_› ?_|refine .cf ‹_› ?_)|(with_reducible refine Ag.cr (λ_=>?_) (λ_=>?_)<;>try (exfalso;grind (splits:=3) [mA,GA,eA, →zrQ];done))|(with_reducible first|apply iD|apply mC|refine .bT inferInstance ‹_› ?_|apply zE)))⟩
instance{a0 a1 a2}:LA (Ez a0 a1 a2) (Ba a0 a1 a2):=⟨by exact zrE (λ_ _ _=>LA.h) (λ_ _=>LA.h)⟩
instance{a0 a1}:LA (Fz a0 a1) (Gj a0 a1):=⟨by unfold Gj Fz;((try simp only[lC,yA,List.nil_append]);repeat' ((with_reducible first|intro _|exact .r0|apply mB|apply iC|apply MB|apply iB|apply HC|(apply_assumption;done))))⟩
instance{a0 a1 a2 a3}:LA (Gb a0 a1 a2 a3) (Cv a0 a1 a2 a3):=⟨by exact zue⟩
instance{a0 a1 a2 a3}:LA (Ga a0 a1 a2 a3) (Ei a0 a1 a2 a3):=⟨by exact zsC⟩
instance{a0}:LA (Hs a0) (Fh a0):=⟨by unfold Fh Hs;((try simp only[kA,LE,lC]);repeat' ((with_reducible first|intro _|exact .r0|apply mB|apply iC|refine .bd inferInstance ?_|apply iB|apply HC|(apply_assumption;done))))⟩
instance{a0 a1 a2}:LA (Ht a0 a1 a2) (Fi a0 a1 a2):=⟨by unfold Fi Ht;have h1:=@RA a0.Cur.N 1;((try simp only[kA,lC,uB]);repeat' (first|(with_reducible first|intro _|apply ZE|apply cF|exact .r0|apply mB|apply iC|refine .bd inferInstance ?_|apply iB)|(with_reducible refine Ag.cr (λ_=>?_) (λ_=>?_)<;>try (exfalso;grind (splits:=3) [mA,GA,eA,SC];done))|(with_reducible first|apply iD|apply mC|apply zE)|(refine .s ?_;grind [mA,GA,eA,jC,oC,List.length_eq_zero_iff,SC])))⟩
instance{a0 a1 a2 a3 a4}:LA (Hu a0 a1 a2 a3 a4) (Cc a0 a1 a2 a3 a4):=⟨by unfold Cc Hu Gk;((try simp only[kA,yA,List.nil_append,ba,bc,bs,ED]);repeat' (first|(with_reducible first|intro _|exact .r0|apply mB|apply iC|refine .bd inferInstance ?_|apply vD|apply MB|apply iB|apply HC|(apply_assumption;done)|apply zg2|(apply dN;simp only[ba,bc,bs,bn])|apply iD|apply mC|apply VG|refine .bT inferInstance ‹_› ?_|refine .ct ‹_› ?_|refine .cf ‹_› ?_|apply zE|apply iG)|(refine .s ?_;grind [mA,GA,eA,jC,oC,List.length_eq_zero_iff])))⟩
instance{a0 a1 a2 a3}:LA (Hw a0 a1 a2 a3) (Cd a0 a1 a2 a3):=⟨by
 unfold Cd Hw
 (try simp only[kA,xC,VD,OD,List.nil_append,CC,uB,yA,ba])
 refine .pl λ_=> .pr λ_=> .jBl (.jBr (.pl λ_=> .pr λ_=> .cc (λ_=> .r0) λhs=> .cc (λ_=> .r0) λhn=> .cc (λ_=> .r0) λha=> .bd inferInstance λcr R5 _=> .bd inferInstance λfr wW _=>?_));refine Ag.hj (λk k'=>(∀y z,y.1=z.1→y.2.1=z.2.1→y.2.2=z.2.2.1→Ag (k y) (k' z))∧(∀y,y.1=[]→Ag (k y) (some (y.2.2,[],y.2.1)))) ⟨?_,?_⟩ λk k' hk=>?_
 ·rintro⟨o,n,s⟩ ⟨o',n',s',d⟩ e1 e2 e3;cases e1;cases e2;cases e3;exact zwY (λ_ _=>LA.h) (λ_=>LA.h) (λ_ _ _=>LA.h)
 ·rintro⟨o,n,s⟩ e1;exact .jl (zvd e1 .r0)
 obtain⟨fZ,oZ⟩:=hk;refine .ce (by rfl) (λ_=>oZ _ rfl) λhf=>?_;have S:=nE.1 (by simpa using hs)
 have hD:a0.D.N≤10000:=by
  have:=S.dice;simp only[YB,Bool.and_eq_true,YA]at this;omega
 have hT:=S.tab;have hfo:=zrH wW (by simpa using hf);have I0:(uC a0.D).2.length≤100:=by have:=SH a0.D;omega
 generalize fr.1=f at *;cases h1:(f.Kind==1)
 ·cases h3:(f.Kind==3)
  ·cases h4:nB f.Kind
   ·simp only[aA,cond_true,cond_false];exact fZ _ _ rfl rfl rfl
   ·simp only[aA,cond_true,cond_false];unfold Cw
    (try simp only[kA,xC,VD,OD,List.nil_append,CC,uB,yA,ba])
    simp only[ba,bc,bs,bn,aA];refine .pl λ_=> .pr λ_=> .cc (λ_=>oZ _ rfl) λhn=> .bd inferInstance λe he _=> .cc (λ_=>oZ _ rfl) λhd=> .pl λ_=> .pr λ_=> .bd inferInstance λm _ _=> .cc (λ_=>?_) λ_=>?_
    ·have hz:([]:List UInt8).length≤100:=by decide
     ((try simp only[kA,xC,VD,OD,List.nil_append,CC,uB,yA,ba]);repeat' (first|(with_reducible first|intro _|apply mB|apply iC|refine .bd inferInstance ?_|apply vD|apply MB|apply iB|refine .ct ‹_› ?_|refine .cf ‹_› ?_)|(with_reducible refine Ag.cr (λ_=>?_) (λ_=>?_)<;>try (exfalso;grind (splits:=3) [mA,GA,eA, →fT];done))|(with_reducible first|(apply dN;simp only[ba,bc,bs,bn])|apply iD|apply mC|refine .bT inferInstance ‹_› ?_|refine .bR ‹_› ?_|refine .bI ‹_› ?_|apply zE)|(exfalso;grind [mA,GA,eA, →fT])))
     all_goals first|exact oZ _ rfl|(refine fZ _ _ ?_ ?_ ?_<;>first|rfl|grind [→fT])
    ·((try simp only[kA,xC,VD,OD,List.nil_append,CC,uB,yA,ba]);repeat' (first | (with_reducible first | intro _ | apply mB | apply iC | refine .bd inferInstance ?_ | apply vD | apply MB | apply iB | refine .ct ‹_› ?_ | refine .cf ‹_› ?_) | (with_reducible refine Ag.cr (λ_=>?_) (λ_=>?_)<;>try (exfalso;grind (splits:=3) [mA,GA,eA, →fT];done)) | (with_reducible first | (apply dN;simp only[ba,bc,bs,bn]) | apply iD | apply mC | refine .bT inferInstance ‹_› ?_ | refine .bR ‹_› ?_ | refine .bI ‹_› ?_ | apply zE) | (exfalso;grind [mA,GA,eA, →fT])))
     all_goals first|exact oZ _ rfl|(refine fZ _ _ ?_ ?_ ?_<;>first|rfl|grind [→fT])
  ·simp only[aA,cond_true,cond_false];unfold Gi
   (try simp only[kA,xC,VD,OD,List.nil_append,CC,uB,yA,ba])
   refine .jbl ?_;simp only[ba,bc,bs,bn,aA];refine .bd inferInstance λj _ _=> .cc (λ_=>oZ _ rfl) λhj=> .cc (λ_=>oZ _ rfl) λVW=> .bd inferInstance λp hp _=> .bd inferInstance λok _ _=> .cc (λ_=>oZ _ rfl) λ_=> .pl λ_=> .pr λ_=> .cc (λhn=>?_) λhn=>?_
   ·refine .bd inferInstance λp2 _ _=> .bd inferInstance λs oX _=> .bd inferInstance λt ht _=> .cc (λ_=>oZ _ rfl) λh0=>?_;have h0:t.2=0:=by simpa using h0
    have e1:=zsj ht h0;rw[zsr oX (zfn ht h0).2.2.2]at e1;have e2:=zsl ht h0;simp only[e1]
    ((try simp only[kA,xC,VD,OD,List.nil_append,CC,uB,yA,ba]);repeat' (first|(with_reducible first|intro _|apply mB|apply iC|refine .bd inferInstance ?_|apply vD|apply MB|apply iB|refine .ct ‹_› ?_|refine .cf ‹_› ?_)|(with_reducible refine Ag.cr (λ_=>?_) (λ_=>?_)<;>try (exfalso;grind (splits:=3) [mA,GA,eA, →nT];done))|(with_reducible first|(apply dN;simp only[ba,bc,bs,bn])|apply iD|apply mC|refine .bT inferInstance ‹_› ?_|refine .bR ‹_› ?_|refine .bI ‹_› ?_|apply zE)|(exfalso;grind [mA,GA,eA, →nT])))
    all_goals first|exact oZ _ rfl|(refine fZ _ _ ?_ ?_ ?_<;>first|rfl|grind [→nT])
   ·((try simp only[kA,xC,VD,OD,List.nil_append,CC,uB,yA,ba]);repeat' (first | (with_reducible first | intro _ | apply mB | apply iC | refine .bd inferInstance ?_ | apply vD | apply MB | apply iB | refine .ct ‹_› ?_ | refine .cf ‹_› ?_) | (with_reducible refine Ag.cr (λ_=>?_) (λ_=>?_)<;>try (exfalso;grind (splits:=3) [mA,GA,eA, →nT];done)) | (with_reducible first | (apply dN;simp only[ba,bc,bs,bn]) | apply iD | apply mC | refine .bT inferInstance ‹_› ?_ | refine .bR ‹_› ?_ | refine .bI ‹_› ?_ | apply zE) | (exfalso;grind [mA,GA,eA, →nT])))
    all_goals first|exact oZ _ rfl|(refine fZ _ _ ?_ ?_ ?_<;>first|rfl|grind [→nT])
 ·simp only[aA,cond_true,cond_false];unfold Gg
  ((try simp only[kA,xC,VD,OD,List.nil_append,CC,uB,yA,ba]);repeat' (first|(with_reducible first|intro _|apply mB|apply iC|refine .bd inferInstance ?_|apply vD|apply MB|apply iB|refine .ct ‹_› ?_|refine .cf ‹_› ?_)|(with_reducible refine Ag.cr (λ_=>?_) (λ_=>?_)<;>try (exfalso;grind (splits:=3) [mA,GA,eA];done))|(with_reducible first|(apply dN;simp only[ba,bc,bs,bn])|apply iD|apply mC|refine .bT inferInstance ‹_› ?_|refine .bR ‹_› ?_|refine .bI ‹_› ?_|apply zE)|(exfalso;grind [mA,GA,eA])))
  all_goals first
   | exact oZ _ rfl
   | exact fZ _ _ rfl rfl rfl
   | skip⟩
instance{a0}:LA (Fo a0) (Bs a0):=⟨by unfold Bs Fo;((try simp only);repeat' ((with_reducible first|intro _|exact .r0|refine .bd inferInstance ?_|apply vD|apply MB|apply iB|apply VL|apply HC|(apply_assumption;done)|apply iD|refine .bT inferInstance ‹_› ?_|refine .bR ‹_› ?_)))⟩
instance{a0 a1 a2}:LA (Hx a0 a1 a2) (Fj a0 a1 a2):=⟨by unfold Fj Hx;((try simp only[yA,QC,kA]);repeat' (first|(with_reducible first|intro _|apply ZE|apply cF|exact .r0|apply mB|apply iC|refine .bd inferInstance ?_|apply iB)|(with_reducible refine Ag.cr (λ_=>?_) (λ_=>?_)<;>try (exfalso;grind (splits:=3) [mA,GA,eA,zaf];done))|(with_reducible first|apply iD|apply mC|apply zE)|(refine .s ?_;grind [mA,GA,eA,jC,oC,List.length_eq_zero_iff,zaf])))⟩
instance{a0 a1 a2}:LA (Hy a0 a1 a2) (Ej a0 a1 a2):=⟨by unfold Ej Hy Jp Ip;have hc:=λh=>(@zxo a0 h);((try simp only[kA,yA,ba,bc,bs,uB,qD,QC,List.nil_append]);repeat' (first|(with_reducible first|intro _|apply ZE|apply cF|exact .r0|apply mB|apply iC|refine .bd inferInstance ?_|apply vD|apply MB|apply iB|refine .ct ‹_› ?_|refine .cf ‹_› ?_)|(with_reducible refine Ag.cr (λ_=>?_) (λ_=>?_)<;>try (exfalso;grind (splits:=3) [mA,GA,eA, →ze9, →zi4, →zi9];done))|(with_reducible first|(apply dN;simp only[ba,bc,bs,bn])|apply iD|apply mC|apply VG|refine .bT inferInstance ‹_› ?_|apply zE)|(refine .s ?_;grind [mA,GA,eA,jC,oC,List.length_eq_zero_iff, →ze9, →zi4, →zi9])))⟩
instance{a0 a1}:LA (Gz a0 a1) (Da a0 a1):=⟨by unfold Da Gz;((try simp only[kA,yA,ED,List.nil_append]);repeat' (first|(with_reducible first|intro _|apply ZE|apply cF|exact .r0|apply mB|apply iC|refine .bd inferInstance ?_|apply MB|apply iB)|(refine .s ?_;grind [mA,GA,eA,jC,oC,List.length_eq_zero_iff, →ze9,fF,kN])))⟩
instance{a0 a1 a2 a3}:LA (Ha a0 a1 a2 a3) (Gm a0 a1 a2 a3):=⟨by unfold Gm Ha;have h1:=λh=>@zmj a0 h;((try simp only[kA,xC]);repeat' (first|(with_reducible first|intro _|apply ZE|apply cF|exact .r0|apply mB|apply iC|refine .bd inferInstance ?_|apply MB|apply iB)|(with_reducible refine Ag.cr (λ_=>?_) (λ_=>?_)<;>try (exfalso;grind (splits:=3) [mA,GA,eA, →zlT, →zeZ];done))|(with_reducible first|apply iD|apply mC|apply VG|refine .bI ‹_› ?_|apply zE)|(refine .s ?_;grind [mA,GA,eA,jC,oC,List.length_eq_zero_iff, →zlT, →zeZ])))⟩
instance{a0}:LA (Ia a0) (Ek a0):=⟨by unfold Ek Ia;((try simp only[kA,VD,OD,yA,xC,List.nil_append]);repeat' ((with_reducible first|intro _|exact .r0|apply mB|apply iC|apply MB|apply iB|apply HC|(apply_assumption;done))))⟩
instance{a0}:LA (Fr a0) (Em a0):=⟨by unfold Em Fr;((try simp only[ED,kA,yA,List.nil_append]);repeat' ((with_reducible first|intro _|exact .r0|apply mB|apply iC|apply MB|apply iB)))⟩
instance{a0 a1}:LA (Ic a0 a1) (Gn a0 a1):=⟨by unfold Gn Ic Dl Fs;have h1:=λh=>@zmj a0 h;((try simp only[kA,xC,yA,ba,bs,List.nil_append,bc,bn]);repeat' (first|(with_reducible first|intro _|apply ZE|apply cF|exact .r0|apply mB|apply iC|refine .bd inferInstance ?_|apply MB|apply iB)|(with_reducible refine Ag.cr (λ_=>?_) (λ_=>?_)<;>try (exfalso;grind (splits:=3) [mA,GA,eA, →zlB];done))|(with_reducible first|apply iD|apply mC|refine .bR ‹_› ?_|refine .bI ‹_› ?_|apply zE)|(refine .s ?_;grind [mA,GA,eA,jC,oC,List.length_eq_zero_iff, →zlB])))⟩
instance{a0}:LA (Ie a0) (Iq a0):=⟨by unfold Iq Ie;((try simp only[lC,yA,List.nil_append]);repeat' ((with_reducible first|intro _|exact .r0|apply mB|apply iC|apply vD|apply MB|apply iB|apply HC|(apply_assumption;done))))⟩
instance{a0 a1}:LA (Bv a0 a1) (Bv a0 a1):=⟨.r0⟩
instance{a0 a1}:LA (Cf a0 a1) (En a0 a1):=⟨by unfold En Cf Cu;((try simp only[kA,ba,bx,GH]);repeat' ((with_reducible first|intro _|exact .r0|apply mB|apply iC|refine .bd inferInstance ?_|apply vD|apply MB|apply iB|apply VL|apply HC|(apply_assumption;done)|refine .bR ‹_› ?_)))⟩
instance{a0 a1}:LA (Hc a0 a1) (Gq a0 a1):=⟨by unfold Gq Hc;((try simp only[kA,ED]);repeat' ((with_reducible first|intro _|exact .r0|apply mB|apply iC|refine .bd inferInstance ?_|apply iB|apply HC|(apply_assumption;done))))⟩
instance{a0 a1}:LA (Hd a0 a1) (Gr a0 a1):=⟨by unfold Gr Hd;((try simp only[kA,AG]);repeat' ((with_reducible first|intro _|exact .r0|apply mB|apply iC|refine .bd inferInstance ?_|apply vD|apply MB|apply iB|apply VL|apply HC|(apply_assumption;done))))⟩
instance{a0 a1}:LA (He a0 a1) (Gs a0 a1):=⟨by unfold Gs He Dl Fs;((try simp only[kA,CC,yA,ba,bs,xC,List.nil_append,bc,bn]);repeat' ((with_reducible first|intro _|exact .r0|apply mB|apply iC|refine .bd inferInstance ?_|apply vD|apply MB|apply iB|apply VL|apply HC|(apply_assumption;done)|apply iD|apply mC|refine .bR ‹_› ?_|refine .ct ‹_› ?_|refine .cf ‹_› ?_)))⟩
instance{a0 a1}:LA (Dv a0 a1) (Dv a0 a1):=⟨.r0⟩
instance{a0 a1}:LA (Fp a0 a1) (Fk a0 a1):=⟨by unfold Fk Fp;((try simp only);repeat' (first|(with_reducible first|intro _|exact .r0|refine .bd inferInstance ?_|apply iB|apply VG|apply iG)|(refine .s ?_;grind [mA,GA,eA,jC,oC,List.length_eq_zero_iff,HD])))⟩
instance{a0 a1}:LA (Hb a0 a1) (Gp a0 a1):=⟨by unfold Gp Hb Ir Fd Dl Dw;((try simp only[kA,yA,ba,bs,bc,qD,fK,List.nil_append]);repeat' (first|(with_reducible first|intro _|apply ZE|apply cF|exact .r0|apply mB|apply iC|refine .bd inferInstance ?_|apply MB|apply iB|refine .ct ‹_› ?_|refine .cf ‹_› ?_)|(with_reducible refine Ag.cr (λ_=>?_) (λ_=>?_)<;>try (exfalso;grind (splits:=3) [mA,GA,eA,zhD, →ziI,fB];done))|(with_reducible first|(apply dN;simp only[ba,bc,bs,bn])|apply iD|apply mC|apply VG|refine .bT inferInstance ‹_› ?_|apply zE)|(refine .s ?_;grind [mA,GA,eA,jC,oC,List.length_eq_zero_iff,zhD, →ziI,fB])))⟩
instance{a0 a1}:LA (Ge a0 a1) (Is a0 a1):=⟨by unfold Is Ge;((try simp only[yA,mK]);repeat' ((with_reducible first|intro _|exact .r0|apply mB|apply iC)))⟩
end Go.D
namespace Go.D
def Ag.li{α σ:Type}(I:σ→Prop){f f':σ→(σ→Option α)→Option α}{x0:σ}(h0:I x0)(e:∀x k k',I x→(∀y,I y→Ag (k y) (k' y))→Ag (f x k) (f' x k')):∀n,Ag (uA n f x0) (uA n f' x0):=by
 intro n;induction n generalizing x0 with
 | zero=>exact nl
 | succ n ih=>exact e _ _ _ h0 λ_ h=>ih h
def zwd{k:Int}:Ag (Jn k) (Dt k):=by
 by_cases h:0≤k∧k≤10
 ·have:k=0∨k=1∨k=2∨k=3∨k=4∨k=5∨k=6∨k=7∨k=8∨k=9∨k=10:=by omega
  rcases this with rfl|rfl|rfl|rfl|rfl|rfl|rfl|rfl|rfl|rfl|rfl<;>exact Ag.r0
 ·unfold Dt;refine .cr (λhc=>absurd ?_ h) λ_=> .nr;simp only[B,List.length_cons,List.length_nil]at hc;omega
instance{k:Int}:LA (Dt k) (Jn k):=⟨zwd⟩
end Go.D
namespace Go.D
set_option maxHeartbeats 2000000
def zgb{α:Type}{l:List α}{m:Nat}{j:Int}(h:m+j.toNat<l.length)(hj:0≤j):jA (List.take ((l.length:Int) - (m:Int)).toNat (List.drop m l)) j=l[m+j.toNat]?:=by
 unfold jA;rw[if_pos hj,List.getElem?_take,if_pos (by omega),List.getElem?_drop]
def Ag.lb{α β σ:Type}{K:α→Option β}{f:σ→(σ→Option α)→Option α}{f':σ→(σ→Option β)→Option β}{x0:σ}(e:∀x k k',(∀y,Ag (Option.bind (k y) K) (k' y))→Ag (Option.bind (f x k) K) (f' x k')):∀n,Ag (Option.bind (uA n f x0) K) (uA n f' x0):=by
 intro n;induction n generalizing x0 with
 | zero=>exact nl
 | succ n ih=>exact e _ _ _ λ_=>ih
def zvG{a0 a1 a2}:Ag (Ij a0 a1 a2) (Gc a0 a1 a2):=by
 unfold Ij Gc
 (try simp only[yA,List.nil_append,LJ,LE])
 refine .cc (λ_=> .r0) λ_=> .jj (λy=>?_) λk k' hk=>Ag.li (λx=>x.1.length≤8) (by decide) (λx k4 k4' hx bW=>?_) _
 ·(repeat' ((with_reducible first|intro _|exact .r0|apply mB|refine .bd inferInstance ?_|apply vD|apply MB|apply iB)))
 ·have hi:=λr:Int=>@RA (x.1.length:Int) r;refine .cc (λ_=> .bd inferInstance λe _ _=> .bl λr6 h6=> .jBl (.jBr (.bd inferInstance λso hso _=> .cc (λ_=> .r0) λhs=> .bT inferInstance h6 λ_=> .ce ?_ (λ_=> .r0) λhl=>?_))) λ_=>hk _
  ·obtain⟨q,hq,hb⟩:=zer (a0:=e.Kind);cases hq.symm.trans h6;rw[hi r6 (by omega) (by omega)];exact decide_eq_decide.2 (by omega)
  ·obtain⟨q,hq,hb⟩:=zim (a0:=e);cases hq.symm.trans hso;obtain⟨q,hq,hc⟩:=zer (a0:=e.Kind);cases hq.symm.trans h6;have hb:=hb (by simpa using hs);have FV:r6≤(x.1.length:Int):=by simp only[B]at hl;rw[hi r6 (by omega) (by omega)]at hl;omega
   have hi:=hi r6 (by omega) (by omega);obtain⟨m,hm⟩:∃m:Nat,(x.1.length:Int) - r6=m:=⟨_,(Int.toNat_of_nonneg (by omega)).symm⟩;rw[hm]at hi;refine .gl λ_=> .bT inferInstance h6 λ_=>?_;have PX:1≤r6→_:=λh=>zgb (l:=x.1) (m:=m) (j:=0) (by omega) (by omega);have PZ:2≤r6→_:=λh=>zgb (l:=x.1) (m:=m) (j:=1) (by omega) (by omega);have nZ:3≤r6→_:=λh=>zgb (l:=x.1) (m:=m) (j:=2) (by omega) (by omega);have e1:fA .i64 (m:Int) 1=((m+1:Nat):Int):=DA (by omega) (by omega);have e2:fA .i64 (m:Int) 2=((m+2:Nat):Int):=DA (by omega) (by omega)
   have h8:decide (((m+1:Nat):Int)>8)=((m:Int)==8):=by
    rw[Bool.eq_iff_iff,decide_eq_true_iff,beq_iff_eq];omega
   have BW:∀(b:List UInt8) (i:Int),((m:Int)==8)=false→Ag (k4 (List.take m x.1++[b],i)) (k4' (List.take m x.1++[b],i)):=λb i h=>bW _ (by have h:=beq_eq_false_iff_ne.1 h;simp only[List.length_append,List.length_take,List.length_cons,List.length_nil];omega);have:e.Kind=1∨e.Kind=2∨e.Kind=3∨e.Kind=4∨e.Kind=5∨e.Kind=6∨e.Kind=7∨e.Kind=8∨e.Kind=9∨e.Kind=10:=by omega
   unfold Jc
   rcases this with h|h|h|h|h|h|h|h|h|h
   all_goals (try have PX:=PX (by omega))
   all_goals (try have PZ:=PZ (by omega))
   all_goals (try have nZ:=nZ (by omega))
   all_goals (simp only[h,hi,PX,PZ,nZ,aA,beq_self_eq_true,cond_true,cond_false,Int.reduceBEq,ba,bc,bs,bn,h8,e1,e2,List.drop_zero,Int.sub_zero,Int.toNat_natCast,Int.reduceToNat,Nat.add_zero,LJ,zgo,LE,List.nil_append,Bool.not_true,Bool.not_false])
   rotate_left 5
   ·refine .gr λ_=> .bd inferInstance λu hu _=> .gr λ_=> .bd inferInstance λv hv _=> .cl (λh1=> .cf (by simp only[bne,h1];rfl) ?_) λh1=> .ct (by simp only[bne,h1];rfl) .r0;simp only[hu,hv,bs,Jb,aA];refine .lb (λx k k' pW=>?_) _;simp only[ba,bc,bs,bn]
    repeat' (first|exact BW _ _ ‹_› | exact pW _|(with_reducible first|intro _|exact .r0|refine .bd inferInstance ?_|apply vD|apply MB|apply iB)|fail|(fail)|dsimp only[cond_true,cond_false])
   all_goals (repeat' (first|exact BW _ _ ‹_› | (with_reducible first|intro _|exact .r0|apply mB|apply iC|refine .bd inferInstance ?_|apply vD|apply MB|apply iB)|(with_reducible first|intro _|apply iD|apply mC|refine .bR ‹_› ?_|refine .ct ‹_› ?_|refine .cf ‹_› ?_|apply zE|apply iG)|((exfalso;grind [mA,GA,eA]))|dsimp only[cond_true,cond_false]))
instance{a0:List Bb}{a1:List Al}{a2:List (List UInt8)}:LA (Gc a0 a1 a2) (Ij a0 a1 a2):=⟨zvG⟩
end Go.D
namespace Go.D
open Option renaming bind→ob
set_option maxHeartbeats 1000000
def Ag.bM{α β γ:Type}{x:Option α}{y:Option β}(g:α→β)(h:Ag (ob x λv=>some (g v)) y){f:α→Option γ}{f':β→Option γ}(k:∀v,x=some v→Ag (f v) (f' (g v))):Ag (ob x f) (ob y f'):=by
 cases hx:x with
 | none=>exact nl
 | some v=>
  cases hy:y with
  | none=>exact nr
  | some w=>
   subst hx hy;have:=h _ _ rfl rfl;subst this;exact k v rfl
def Ag.lr{α σ τ:Type}(R:σ→τ→Prop){f:σ→(σ→Option α)→Option α}{f':τ→(τ→Option α)→Option α}{x0:σ}{y0:τ}(h0:R x0 y0)(e:∀x y k k',R x y→(∀x y,R x y→Ag (k x) (k' y))→Ag (f x k) (f' y k')):∀n,Ag (uA n f x0) (uA n f' y0):=by
 intro n;induction n generalizing x0 y0 with
 | zero=>exact nl
 | succ n ih=>exact e _ _ _ _ h0 λ_ _ h=>ih h
def zwo{a0 a1 a2 a3}(ha:NA a0=true)(ht:eA a1 0 2=true)(hf:EA a2=true):Ag (ob (Be a0 a1 a2 a3) λr=>some (r.2,r.1)) (Hz a0 a1 a2 a3):=by
 unfold Be Hz
 (try simp only[kA,pE,ba,bc,bs,bn])
 simp only[aA,ha,ht,hf,Bool.not_true,cond_false,cond_true]
 ((try simp only[kA,pE,ba,bc,bs,bn]);repeat' (first|(with_reducible first|intro _|exact .r0|apply mB|refine .bd inferInstance ?_|apply vD|apply MB|apply iB|apply mC|refine .bR ‹_› ?_|apply zE|apply iG)|(refine .s ?_;grind [mA,GA,eA,jC,oC,List.length_eq_zero_iff])))
def zwi{a0}(ha:NA a0=true)(ht:(a0.Now==1000000)=false):Ag (ob (Ds a0) λr=>some (r.2,r.1)) (Hf a0):=by
 unfold Ds Hf
 (try simp only[kA,pE,ba,bc,bn,bs])
 refine .pl λ_=>?_;simp only[aA,ha,ht,ba];refine .pl λ_=>?_;have hc:(a0.Clients.length:Int)=2:=by rw[(UB.1 ha).cl];rfl
 simp only[Bool.not_true,cond_false,hc];refine .lb (λx k k' hk=>?_) _
 (try simp only[kA,pE,ba,bc,bn,bs])
 (repeat' ((with_reducible first|intro _|exact .r0|refine .bd inferInstance ?_|apply vD|apply MB|apply iB|(apply_assumption;done))))
def zxd{l:List Al}{x:Al}:Pc (Iu l x) λr=>r=cond (DD (l++[x])) (l++[x]) l:=by
 unfold Iu
 (try simp only[List.nil_append,kA])
 refine .g λ_=> .g λ_=> .p λ_=> .c (λh=> .p λ_=> .s ?_) λh=> .s ?_
 ·rw[show DD (l++[x])=false by simpa using h];rfl
 ·rw[show DD (l++[x])=true by simpa using h];rfl
def zjy{l:List Al}{x:Al}(hl:DD l=true)(hx:tD x=true):DD (l++[x])=decide ((l.length:Int)<90):=by
 simp only[DD,Bool.and_eq_true,Bool.not_eq_true',decide_eq_true_eq,List.any_append,List.any_cons,List.any_nil,hx]at hl⊢;rw[List.length_append,List.length_singleton];rw[hl.1];simp only[Bool.not_true,Bool.or_false,Bool.not_false,Bool.true_and];exact decide_eq_decide.2 (by omega)
def MG{α:Type}{l:List α}{i:Int}{e:α}(h:jA l i=some e):e∈l:=by
 unfold jA at h;split at h
 ·exact List.mem_of_getElem? h
 ·cases h
def pT{w:Aa}{l:List Al}{ns:List Ad}(hs:DD w.Seen=true)(hl:∀x∈l,tD x=true):Ag (Bg ⟨w.Now,w.Clients,w.S,w.D,w.Seen,w.Known,w.Notes++ns⟩ l) (Co w l ns):=by
 unfold Bg Co
 (try simp only[kA])
 simp only[aA];refine .pl λ_=>Ag.lr (λx y=>x.1=y.1∧DD y.2.Seen=true∧x.2=⟨y.2.Now,y.2.Clients,y.2.S,y.2.D,y.2.Seen,y.2.Known,w.Notes++ns⟩∧y.2.Notes=w.Notes) ⟨rfl,hs,rfl,rfl⟩ (λx y k k' ⟨h1,h2,h3,h4⟩ hk=>?_) _;rw[h1];refine .cc (λ_=> .bl λe he=> .bl λr hr=>?_) λ_=> .gr λ_=> .s (by rw[h3,h4]);have hr:=zxd r hr;have hm:=MG he;have h5:x.2.Seen=y.2.Seen:=by rw[h3]
 rw[h5,zjy h2 (hl _ hm)]at hr;refine .cr (λh=>?_) λh=>hk _ _ ⟨rfl,h2,?_,h4⟩
 ·rw[h,cond_true]at hr;refine .bR he (.gr λ_=>hk _ _ ⟨rfl,?_,?_,h4⟩)
  ·show DD (y.2.Seen++[e])=true
   rw[zjy h2 (hl _ hm)];exact h
  ·rw[hr,h3]
 ·rw[h,cond_false]at hr;rw[hr,h3]
def zdJ{w:Aa}{i:Int}{c:Ae}{fs:List Ab}{ns:List Ad}(hs:DD w.Seen=true)(hc:fB c=true)(hf:wt fs≤400):
  Ag (cond (0≤i&&i<(w.Clients.length:Int)) (ob (w.Clients[i.toNat]?) λ_=>cond (w.Notes.length+ns.length≤bA) (ob (Br c fs) λr24=>ob (Bg ⟨w.Now,List.set w.Clients i.toNat c,w.S,w.D,w.Seen,w.Known,w.Notes++ns⟩ r24) λr53=>some (r53,true)) none) none)
  (ob (Du w i c fs ns) λr=>some (r,true)):=by
 unfold Du
 (try simp only[bc,ba,bs,bn])
 refine .gl λ_=> .cr (λ_=> .bd inferInstance λ_ _ _=> .gl λ_=> .bd inferInstance λr hr _=> .b (pT (w:=⟨w.Now,List.set w.Clients i.toNat c,w.S,w.D,w.Seen,w.Known,w.Notes⟩) hs ?_) λ_ _ _=> .r0) λ_=> .nr;obtain⟨q,hq,_,h⟩:=@zaG c fs (by have:=(RD hc).1;omega) (by omega);cases hq.symm.trans hr;exact λx hx=>((h (zdO hc)).1 x hx).1
def zwk{n:Int}(h:0≤n∧n≤255):EA (vC n)=true:=by
 unfold vC;rw[if_pos h];simp only[EA,Bool.and_eq_true,Bool.or_eq_true,YA,beq_iff_eq];omega
def zdu{w:Aa}{b:Bool}:Ag (ob (Bg w []) λr=>some (r,b)) (some (w,b)):=by
 have h:Pc (Bg w []) λr=>r=w:=by
  unfold Bg
  (try simp only[kA])
  refine .p λ_=> .j (.l (λx=>x=(0,w)) rfl (λx k hx hk=>?_) _);subst hx;exact .s rfl
 exact .bl λr hr=> .s (by rw[h r hr])
def zun{c:Ae}:Pc (Br c []) λr=>r=[]:=by
 unfold Br
 (try simp only)
 refine .j (.l (λx=>x=([],0)) rfl (λx k hx hk=>?_) _);subst hx;exact .s rfl
def zma:Pc (Bs []) λr=>r=[]:=by
 unfold Bs
 (try simp only)
 refine .j (.l (λx=>x=([],0)) rfl (λx k hx hk=>?_) _);subst hx;exact .s rfl
def zvK{s:Ac}(hs:wB s=true):Pc (Ek s) λr=>((r.2.length:Int)==0)= !decide (s.D.N<10000):=by
 unfold Ek
 (try simp only[kA,VD,OD,yA,xC])
 have hd:=(nE.1 hs).dice;simp only[YB,Bool.and_eq_true,YA]at hd;refine .p λ_=> .j (.p λ_=> .c (λh=>by rw[hs]at h;cases h) λ_=>?_);cases h:s.D.N==10000
 ·refine .p λ_=> .p λ_=> .p λ_=> .s ?_;rw[decide_eq_true (by have:=beq_eq_false_iff_ne.1 h;omega)];rfl
 ·refine .s ?_;rw[decide_eq_false (by have:=beq_iff_eq.1 h;omega)];rfl
def zat{a0:Aa}{a1:Int}{a2:Af}{a3:List UInt8}(ha:NA a0=true)(hn:wt a0≤400000000)(h:0≤a1∧a1≤2)(hf:EA a2=true)(hb:wt a3≤900000000):
  Ag (ob (Be a0 a1 a2 a3) λv=>ob (Bg v.1 v.2) λr=>some (r,true)) (ob (Dk a0 a1 a2 a3) λr=>some (r,true)):=by
 unfold Dk
 (try simp only[ba,bs])
 refine .bM (λr=>(r.2,r.1)) (zwo ha (YA.2 h) hf) λv hv=>?_;obtain⟨q,hq,E⟩:=@zc9 a0 a1 a2 a3 ha hn h.1 h.2 hb;cases hq.symm.trans hv;have:=pT (w:=v.1) (ns:=[]) (UB.1 E.ok).seen E.wires;rw[List.append_nil]at this;exact .b this λ_ _ _=> .r0
def zlt{w:Aa}{c:Aj}:Ag (ob (Iq c) λv=>cond (w.Known.length+v.length≤bA) (ob (pt (wt c.Sn≤bA) c.Sn) λs=>cond (w.Notes.length+[(⟨13,0,0,[],s,0,0,[],[],(⟨0,0⟩:Af),0⟩:Ad)].length≤bA) (cond (!decide (((w.Known++v).length:Int)≤12)) (some (w,false)) (ob (Bg ⟨w.Now,w.Clients,w.S,w.D,w.Seen,w.Known++v,w.Notes++[(⟨13,0,0,[],s,0,0,[],[],(⟨0,0⟩:Af),0⟩:Ad)]⟩ []) λr=>some (r,true))) none) none)
  (ob (Gd w c) λr=>some (cond r.1 r.2 w,r.1)):=by
 unfold Gd
 (try simp only[List.nil_append,ba,bc,bs,bn])
 refine .bd inferInstance λv hv _=> .gl λh1=> .pl λ_=> .gl λ_=> .ce ?_ (λ_=> .r0) λ_=> .gr λ_=> .gr λ_=> .gr λ_=>zdu;have h1:=of_decide_eq_true h1;have:=yB;rw[DA (by omega) (by omega),List.length_append, ←decide_not];exact decide_eq_decide.2 (by omega)
def zxw{a0 a1}(ha:NA a0=true)(hn:wt a0≤400000000)(hw:wt a1≤300000)(he:xG a1=true)(hl:decide ((a0.Notes.length:Int)>500)=false):Ag (Iv a0 a1) (ob (If a0 a1) λr=>some (cond r.1 r.2 a0,r.1)):=by
 have hp:∀{α:Type} (v:α),pt (wt a0≤bA) v=some v:=λ_=>nA (by have:=yB;omega);have W:=UB.1 ha;have hs:=W.seen;have hf:=sO he;have F:=tL ha
 have hP:∀a,PH a0 a≤2:=λa=>by
  obtain⟨q,hq,_,h⟩:=@TU a0 a (by have:=yB;omega) F.2.2.2.2.2.1;cases(hp _).symm.trans hq;exact h
 simp only[pP]at F;have hj:0≤xA .i64 a1.J 3∧xA .i64 a1.J 3<3:=zI (by omega) (by omega);have QW:0≤xA .i64 a1.N 256∧xA .i64 a1.N 256<256:=zI (by omega) (by omega);have b9:=zwk (n:=xA .i64 a1.N 256) ⟨QW.1,by omega⟩
 have hX:∀x∈a0.Seen,EA x.From=true∧wt x.B≤900000000:=λx hx=>by
  have h1:=hs;simp only[DD,Bool.and_eq_true,Bool.not_eq_true',List.any_eq_false]at h1;have:=h1.1 x hx;simp only[tD,Bool.and_eq_true,decide_eq_true_eq]at this;exact⟨by grind,by simp only[N];grind⟩
 have hk:a1.Kind=1∨a1.Kind=2∨a1.Kind=3∨a1.Kind=4∨a1.Kind=5∨a1.Kind=6∨a1.Kind=7∨a1.Kind=8∨a1.Kind=9∨a1.Kind=10∨a1.Kind=11∨a1.Kind=12∨a1.Kind=13∨a1.Kind=14∨a1.Kind=15∨a1.Kind=16∨a1.Kind=17:=by omega
 unfold Iv If Jm Jr Js Jq
 (try simp only[kA,VD,OD,bc,ba,bn,pJ,yA,bs,pE,List.nil_append])
 rcases hk with h|h|h|h|h|h|h|h|h|h|h|h|h|h|h|h|h
 all_goals simp(config:={decide:=false}) only[h,hp,ha,he,hl,aA,Bool.not_true,Bool.not_false,cond_true,cond_false,Int.reduceBEq,ge_iff_le,Int.reduceLE,decide_true,decide_false,beq_self_eq_true,ba,bs,bc,bn,bne]
 ·refine .cl (λhc1=> .bl λc hc=> .pl λt6=> .pl λhp2=> .gl λhp3=>?_) λ_=> .nl;refine .pr λ_=> .ct hc1 (.bR hc (.bd inferInstance λv hv _=> .cr (λh1=>?_) λh1=> .pr λ_=> .gr λ_=>?_))
  ·simp only[h1,cond_true];exact .gl λ_=> .bl λ_ _=> .gl λ_=> .bl λ_ _=> .r0
  ·simp only[h1,cond_false];obtain⟨q,hq,p1,p2,p3,p4,p5⟩:=@ze5 c a0.Now (uC a0.D).2 (zK ha (List.mem_of_getElem? hc)) (by have:=(SH a0.D).2.1;omega);cases hq.symm.trans hv;exact zdJ (w:=⟨a0.Now,a0.Clients,a0.S,(uC a0.D).1,a0.Seen,a0.Known,a0.Notes++[VE (uC a0.D).2]⟩) hs p1 p5.2
 ·refine .cc (λ_=> .bd inferInstance λc hc _=> .bd inferInstance λv hv _=> .cr (λh1=>?_) λh1=>?_) λ_=> .nr
  ·simp only[h1,cond_true];exact .gl λ_=> .bl λ_ _=> .gl λ_=> .bl λ_ _=> .r0
  ·simp only[h1,cond_false];obtain⟨q,hq,p1,p2,p3,p4,p5⟩:=@zaE c a0.Now a1.B (zK ha (List.mem_of_getElem? hc)) (by omega);cases hq.symm.trans hv;exact zdJ hs p1 p5.2
 ·refine .bd inferInstance λv hv _=> .gl λ_=> .cr (λh1=>?_) λh1=> .bd inferInstance λl hl _=>?_
  ·simp only[h1,cond_true];exact .bl λ_ _=> .r0
  ·simp only[h1,cond_false];obtain⟨q,hq,p1,p2,p3,p4,p5⟩:=@zek a0.S a0.Now a1.I a1.B W.srv (by simp only[N];omega);cases hq.symm.trans hv;obtain⟨q,hq,_,p6⟩:=@zeB v.2.1 (by omega) p3;cases hq.symm.trans hl;exact .b (pT (w:=⟨a0.Now,a0.Clients,v.1,a0.D,a0.Seen,a0.Known,a0.Notes⟩) hs λx hx=>(p6 x hx).1) λ_ _ _=> .r0
 ·have hN:=YA.1 W.now;refine .cr (λh1=> .bl λ_ _=>?_) λh1=> .bM (λr=>(r.2,r.1)) (zwi ha h1) λv hv=>?_
  ·rw[decide_eq_false (by have:=beq_iff_eq.1 h1;omega)];exact .r0
  ·rw[decide_eq_true (by have:=beq_eq_false_iff_ne.1 h1;omega)];obtain⟨q,hq,E⟩:=@zli a0 ha hn;cases hq.symm.trans hv;have:=pT (w:=v.1) (ns:=[]) (UB.1 E.ok).seen E.wires;rw[List.append_nil]at this;exact .b this λ_ _ _=> .r0
 ·refine .cc (λ_=> .bd inferInstance λc hc _=> .bd inferInstance λv hv _=> .cc (λ_=> .bd inferInstance λ_ _ _=> .gl λ_=> .bl λl hl=>?_) λ_=> .nr) λ_=> .nr;rw[zun l hl,List.append_nil];exact zdu
 ·refine .cc (λ_=> .bd inferInstance λc hc _=> .bd inferInstance λv hv _=> .cr (λh1=>?_) λh1=>?_) λ_=> .nr
  ·simp only[h1,cond_true];exact .gl λ_=> .bl λ_ _=> .gl λ_=> .bl λ_ _=> .r0
  ·simp only[h1,cond_false];obtain⟨q,hq,p1,p2,p3,p4,p5⟩:=@zej c a0.Now (zK ha (List.mem_of_getElem? hc));cases hq.symm.trans hv;exact zdJ hs p1 p5.2
 ·refine .cc (λ_=> .r0) λ_=> .cc (λ_=> .r0) λ_=> .bl λx hx=> .pl λt6=> .gr λ_=> .bI hx (.cc (λ_=> .r0) λh1=>?_);obtain⟨f1,f2⟩:=hX x (MG hx);exact zat ha hn ⟨by have:=of_decide_eq_false h1;omega,hP x.To⟩ f1 f2
 ·refine .cc (λ_=> .r0) λ_=> .cc (λ_=> .r0) λ_=> .bl λx hx=> .pl λt6=> .gr λ_=> .bI hx ?_;exact zat ha hn ⟨by omega,by omega⟩ b9 (hX x (MG hx)).2
 ·refine .cc (λ_=> .r0) λ_=> .cc (λ_=> .r0) λ_=> .bl λx hx=> .pl λt6=> .gr λ_=> .bI hx ?_;obtain⟨f1,f2⟩:=hX x (MG hx);rw[decide_eq_false (by omega)];exact zat ha hn ⟨hj.1,by omega⟩ f1 f2
 ·refine .cc (λ_=> .r0) λ_=> .cc (λ_=> .r0) λ_=> .bl λx hx=> .pl λt6=> .gr λ_=> .bI hx ?_;obtain⟨f1,f2⟩:=hX x (MG hx);refine .cr (λh1=>?_) λh1=>?_
  ·simp only[h1,cond_true];exact .cl (λ_=> .r0) λ_=> .cl (λ_=> .nl) λ_=> .gl λ_=> .bl λ_ _=> .gl λ_=> .bl λ_ _=> .r0
  ·simp only[h1,cond_false];exact .cc (λ_=> .r0) λ_=> .gr λ_=> .cc (λ_=> .r0) λ_=> .cc (λ_=> .bd inferInstance λv _ _=> .cc (λ_=> .bd inferInstance λ_ _ _=>zat ha hn ⟨by have:=of_decide_eq_false h1;omega,hP x.To⟩ f1 (by simp only[N,List.length_set]at f2⊢;exact f2)) λ_=> .r0) λ_=> .r0
 ·refine .bd inferInstance λv hv _=> .cr (λh1=>?_) λh1=>?_
  ·simp only[h1,cond_true];exact .bl λ_ _=> .r0
  ·simp only[h1,cond_false];obtain⟨q,hq,p⟩:=@zeW a1.Ops a0.Seen a0.Known (by simp only[N]at hw⊢;omega) (by omega) (by omega);cases hq.symm.trans hv;exact zat ha hn ⟨hj.1,by omega⟩ b9 (by simp only[N];omega)
 ·refine .bd inferInstance λv hv _=> .gl λ_=> .bl λl hl=>?_;rw[zma l hl, ←zvK W.srv v hv];exact .cc (λ_=> .r0) λ_=> .b (pT (w:=⟨a0.Now,a0.Clients,v.1,a0.D,a0.Seen,a0.Known,a0.Notes⟩) hs nofun) λ_ _ _=> .r0
 ·refine .cc (λh0=> .bl λc hc=> .bR hc (.cl (λh1=> .ct h1 ?_) λh1=> .cf h1 (.ct h0 (.bR hc (.bd inferInstance λv hv _=>?_))))) λ_=> .nr
  ·exact .bl λ_ _=> .gl λ_=> .bl λ_ _=> .gl λ_=> .bl λ_ _=> .r0
  ·obtain⟨q,hq,p1,_⟩:=@ze1 c (zK ha (List.mem_of_getElem? hc));cases hq.symm.trans hv;exact zdJ hs p1 (Nat.zero_le _)
 ·refine .bd inferInstance λv hv _=> .gl λ_=> .bl λl hl=>?_;rw[zma l hl];exact .cc (λ_=> .r0) λ_=> .b (pT (w:=⟨a0.Now,a0.Clients,v.1,a0.D,a0.Seen,a0.Known,a0.Notes⟩) hs nofun) λ_ _ _=> .r0
 ·refine .cc (λh0=> .bl λc hc=> .bR hc ?_) λ_=> .nr;cases c.St==3
  ·exact .r0
  ·exact .ct rfl (.ct h0 (.bR hc zlt))
 ·refine .cl (λh0=> .cf (decide_eq_false (by have:=of_decide_eq_true h0;omega)) .r0) λh0=> .ct (decide_eq_true (by have:=of_decide_eq_false h0;omega)) (.gl λ_=> .bl λe hx=> .bJ hx ?_);cases e.Dead
  ·exact .gl λ_=> .bl λe hx=> .bJ hx zlt
  ·exact .r0
 ·exact .cc (λ_=> .bd inferInstance λv _ _=>zdu) λ_=> .bd inferInstance λv _ _=>zdu
end Go.D

/-
 The two machines agree.
-/
import Derived.Test.YthmhafeaiaigoaaGreatX1
set_option linter.all false
namespace Go.D
set_option maxHeartbeats 2000000
instance{a0}:NA (Bj a0) (Bg a0):=⟨by unfold Bg Bj;simp only[zgH];((try simp only[VC,zab,XB,XS,zgz]);repeat' (first | (with_reducible first | intro _ | exact .r0 | apply mB | apply oC | apply SB | apply iB | refine .ct ‹_› ?_ | refine .cf ‹_› ?_) | (with_reducible first | apply qC | apply RG) | (refine .s ?_;grind [nA,PA,eA,RB,tC,List.length_eq_zero_iff,zkR]) | dsimp only[cond_true,cond_false]));(refine Ag.lI (λx=>∃i:Nat,x=(λi:Nat=>([UInt8.ofNat (IntKind.u8.wrap a0.Kind).toNat]++[UInt8.ofNat (IntKind.u8.wrap a0.Id).toNat]++a0.Cn++List.replicate i 0,(i:Int))) i∧i≤20) ⟨0,by first | rfl | simp,by decide⟩ (λx k hx hk=>?_) _;obtain⟨i,hx,h2⟩:=hx;have hi:(i:Int)<20→iA .i64 (i:Int) 1=((i+1:Nat):Int):=λh=>(by rw[DA (by omega) (by omega)];omega);subst hx;refine .cr (λhc=> .gr λ_=>hk _ ⟨i+1,?_,?_⟩) λhc=>?_;(· simp only[B]at hc;simp[hi hc,List.replicate_succ']);(· simp only[B]at hc;omega);have he:i=20:=(by simp only[B]at hc;omega);subst he;try dsimp only);(repeat' ((refine .s ?_;grind [nA,PA,eA,RB,tC,List.length_eq_zero_iff])))⟩
instance{a0 a1 a2}:NA (Ec a0 a1 a2) (Fz a0 a1 a2):=⟨by unfold Fz Ec;(repeat' ((with_reducible first | intro _ | exact .r0 | refine .bd inferInstance ?_)))⟩
instance{a0 a1}:NA (Ed a0 a1) (Cj a0 a1):=⟨by unfold Cj Ed;((try simp only);repeat' ((with_reducible first | intro _ | exact .r0 | refine .bd inferInstance ?_ | apply BD | apply SB | apply iB | apply AL | apply RC | (apply_assumption;done))))⟩
instance{a0}:NA (Bf a0) (Bf a0):=⟨.r0⟩
instance{a0}:NA (Fc a0) (Fx a0):=⟨by unfold Fx Fc;((try simp only[BA,List.nil_append]);repeat' ((with_reducible first | intro _ | exact .r0 | apply mB | apply SB)))⟩
instance{a0 a1 a2}:NA (Fd a0 a1 a2) (Hv a0 a1 a2):=⟨by unfold Hv Fd;((try simp only[oA,BA,OD,List.nil_append]);repeat' ((with_reducible first | intro _ | exact .r0 | apply mB | apply oC | refine .bd inferInstance ?_ | apply SB | apply iB | apply RC | (apply_assumption;done))))⟩
instance{a0 a1 a2 a3}:NA (Cb a0 a1 a2 a3) (Eo a0 a1 a2 a3):=⟨by unfold Eo Cb;((try simp only[XB,zab]);repeat' (first | (with_reducible first | intro _ | exact .r0 | apply mB | apply oC | apply SB | apply iB | apply RC | (apply_assumption;done) | apply qC | refine .ct ‹_› ?_ | refine .cf ‹_› ?_ | apply jG) | (refine .s ?_;rfl) | (refine .kk ‹_› ?_;grind [nA,PA,eA])))⟩
instance{a0 a1 a2}:NA (Gp a0 a1 a2) (Hw a0 a1 a2):=⟨by unfold Hw Gp;((try simp only[zgE,XB]);repeat' ((with_reducible first | intro _ | exact .r0 | apply mB | apply oC | apply SB | apply iB | apply RC | (apply_assumption;done))))⟩
instance{a0 a1 a2}:NA (Fb a0 a1 a2) (Hx a0 a1 a2):=⟨by unfold Hx Fb;((try simp only[BA,List.nil_append]);repeat' ((with_reducible first | intro _ | exact .r0 | apply mB | refine .bd inferInstance ?_ | apply BD | apply SB | apply iB | apply AL | apply RC | (apply_assumption;done))))⟩
instance{a0 a1 a2}:NA (Ea a0 a1 a2) (Eq a0 a1 a2):=⟨by unfold Eq Ea;((try simp only);repeat' (first | (with_reducible first | intro _ | apply fF | apply kF | exact .r0 | refine .bd inferInstance ?_ | apply BD | apply SB | apply iB | apply AL | apply RC | (apply_assumption;done)) | (with_reducible refine Ag.cr (λ_=>?_) (λ_=>?_)<;>try (exfalso;grind (splits:=3) [nA,PA,eA,zg6, →zfF];done)) | (with_reducible first | apply rD | apply qC | refine .bR ‹_› ?_ | apply DE) | (refine .kk ‹_› ?_;grind [nA,PA,eA,zg6, →zfF]) | (exfalso;grind [nA,PA,eA,zg6, →zfF])))⟩
instance{a0 a1}:NA (Bt a0 a1) (Ch a0 a1):=⟨by unfold Ch Bt;((try simp only[zab,VC]);repeat' (first | (with_reducible first | intro _ | exact .r0 | apply mB | refine .bd inferInstance ?_ | apply SB | apply iB | apply RC | (apply_assumption;done) | apply qC | apply jG) | (refine .kk ‹_› ?_;grind [nA,PA,eA])))⟩
instance{a0 a1}:NA (Cp a0 a1) (Bz a0 a1):=⟨by unfold Bz Cp;((try simp only[BA,List.nil_append]);repeat' (first | (with_reducible first | intro _ | exact .r0 | apply mB | apply BD | apply SB | apply qC | apply jG) | (refine .s ?_;grind [nA,PA,eA,RB,tC,List.length_eq_zero_iff])))⟩
instance{a0 a1 a2 a3 a4 a5 a6}:NA (Eb a0 a1 a2 a3 a4 a5 a6) (Dq a0 a1 a2 a3 a4 a5 a6):=⟨by unfold Dq Eb;rw[show List.replicate (16:Int).toNat (UInt8.ofNat (0:Int).toNat)=List.replicate 16 0 from rfl];((try simp only[BA,VC,List.nil_append]);repeat' (first | (with_reducible first | intro _ | apply fF | apply kF | exact .r0 | apply mB | refine .bd inferInstance ?_ | apply SB | refine .ct ‹_› ?_ | refine .cf ‹_› ?_) | (with_reducible refine Ag.cr (λ_=>?_) (λ_=>?_)<;>try (exfalso;grind (splits:=3) [nA,PA,eA, →zfO,wB,gG];done)) | (with_reducible first | apply rD | apply qC | apply RG | apply DE) | (exfalso;grind [nA,PA,eA, →zfO,wB,gG]) | dsimp only[cond_true,cond_false]));all_goals ((refine Ag.lI (λx=>∃i:Nat,x=(λi:Nat=>((i:Int),(⟨a5,0,[],a2,0,[],[],a3,a4,_,List.replicate i 0⟩:Aa))) i∧i≤16) ⟨0,by first | rfl | simp,by decide⟩ (λx k hx hk=>?_) _;obtain⟨i,hx,h2⟩:=hx;have hi:(i:Int)<16→iA .i64 (i:Int) 1=((i+1:Nat):Int):=λh=>(by rw[DA (by omega) (by omega)];omega);subst hx;refine .cr (λhc=> .gr λ_=>hk _ ⟨i+1,?_,?_⟩) λhc=>?_;(· simp only[B]at hc;simp[hi hc,List.replicate_succ']);(· simp only[B]at hc;omega);have he:i=16:=(by simp only[B]at hc;omega);subst he;try dsimp only);(repeat' (first | (with_reducible first | intro _ | exact .r0) | with_reducible refine .bT inferInstance ‹_› ?_)))⟩
instance{a0 a1 a2 a3 a4}:NA (Gq a0 a1 a2 a3 a4) (Er a0 a1 a2 a3 a4):=⟨by unfold Er Gq;((try simp only[oA]);repeat' (first | (with_reducible first | intro _ | apply fF | apply kF | exact .r0 | apply mB | apply oC | apply iB | refine .ct ‹_› ?_ | refine .cf ‹_› ?_) | (with_reducible refine Ag.cr (λ_=>?_) (λ_=>?_)<;>try (exfalso;grind (splits:=3) [nA,PA,eA, →zlH, →zfO,wB,gG,aD];done)) | (with_reducible first | apply rD | apply qC | refine .bT inferInstance ‹_› ?_ | apply DE)))⟩
instance{a0 a1 a2}:NA (Cd a0 a1 a2) (Bq a0 a1 a2):=⟨by unfold Bq Cd;cases a0;((try simp only[oA,uC]);repeat' (first | (with_reducible first | intro _ | exact .r0 | apply mB | apply oC | refine .bd inferInstance ?_ | apply iB) | with_reducible apply jG | with_reducible apply RG | (refine .s ?_;grind [nA,PA,eA,RB,tC,List.length_eq_zero_iff, →zkC])))⟩
instance{a0 a1}:NA (Ee a0 a1) (Es a0 a1):=⟨by unfold Es Ee;((try simp only[BA,List.nil_append]);repeat' ((with_reducible first | intro _ | exact .r0 | apply mB | apply SB)))⟩
instance{a0 a1}:NA (Bn a0 a1) (Br a0 a1):=⟨by unfold Br Bn;(repeat' ((with_reducible first | intro _ | exact .r0 | refine .bd inferInstance ?_)))⟩
instance{a0 a1 a2}:NA (Gr a0 a1 a2) (Hy a0 a1 a2):=⟨by unfold Hy Gr;((try simp only[oA,BA,OD,List.nil_append]);repeat' ((with_reducible first | intro _ | exact .r0 | apply mB | apply oC | refine .bd inferInstance ?_ | apply SB | apply iB | apply RC | (apply_assumption;done))))⟩
instance{a0}:NA (Cu a0) (Cu a0):=⟨.r0⟩
instance{a0}:NA (Bk a0) (Bk a0):=⟨.r0⟩
instance{a0}:NA (Ff a0) (Fy a0):=⟨by unfold Fy Ff;((try simp only[oA,uC]);repeat' ((with_reducible first | intro _ | exact .r0 | apply mB | apply oC | refine .bd inferInstance ?_ | apply iB | apply RC | (apply_assumption;done))))⟩
instance{a0 a1}:NA (Gz a0 a1) (Hz a0 a1):=⟨by unfold Hz Gz;((try simp only[oA,OD]);repeat' ((with_reducible first | intro _ | exact .r0 | apply mB | apply oC | refine .bd inferInstance ?_ | apply iB | apply RC | (apply_assumption;done))))⟩
instance{a0 a1}:NA (Ct a0 a1) (Ct a0 a1):=⟨.r0⟩
instance{a0}:NA (Hp a0) (Ia a0):=⟨by unfold Ia Hp Dr Ci Dm;((try simp only[OD,oA,BA,ba,bs,QI,List.nil_append]);repeat' (first | (with_reducible first | intro _ | exact .r0 | apply mB | apply oC | apply SB | apply iB) | with_reducible apply jG | with_reducible apply qC | (refine .s ?_;grind [nA,PA,eA,RB,tC,List.length_eq_zero_iff,zhB])))⟩
instance{a0}:NA (Da a0) (Da a0):=⟨.r0⟩
instance{a0 a1 a2}:NA (Fh a0 a1 a2) (Ic a0 a1 a2):=⟨by unfold Ic Fh;generalize (nB a0 a1).toNat=n;((try simp only[oA,List.nil_append]);repeat' (first | (with_reducible first | intro _ | apply fF | apply kF | exact .r0 | apply mB | refine .bd inferInstance ?_ | apply BD | apply SB | apply iB) | (with_reducible refine Ag.cr (λ_=>?_) (λ_=>?_)<;>try (exfalso;grind (splits:=3) [nA,PA,eA,YD,KI,List.set_set];done)) | (with_reducible first | apply zhi | apply rD | apply qC | apply RG | refine .bR ‹_› ?_ | apply DE) | (refine .s ?_;grind [nA,PA,eA,RB,tC,List.length_eq_zero_iff,YD,KI,List.set_set])))⟩
instance{a0}:NA (Ef a0) (Dc a0):=⟨by exact zst⟩
instance{a0 a1}:NA (Dn a0 a1) (Dd a0 a1):=⟨by unfold Dd Dn;((try simp only);repeat' ((with_reducible first | intro _ | exact .r0 | apply iB | apply AL | apply RC | (apply_assumption;done) | apply rD | apply qC | refine .bR ‹_› ?_ | refine .ct ‹_› ?_ | refine .cf ‹_› ?_)))⟩
instance{a0}:NA (Em a0) (Dv a0):=⟨by unfold Dv Em;(repeat' ((with_reducible first | intro _ | exact .r0 | refine .bd inferInstance ?_)))⟩
instance{a0 a1}:NA (Bw a0 a1) (Bw a0 a1):=⟨.r0⟩
instance{a0 a1 a2}:NA (Dp a0 a1 a2) (Dw a0 a1 a2):=⟨by unfold Dw Dp;((try simp only[oA,List.nil_append]);repeat' ((with_reducible first | intro _ | exact .r0 | apply mB | apply SB | apply iB | apply RC | (apply_assumption;done) | apply rD | apply qC | refine .bT inferInstance ‹_› ?_ | refine .ct ‹_› ?_ | refine .cf ‹_› ?_ | apply jG)))⟩
instance{a0 a1}:NA (Ha a0 a1) (Ie a0 a1):=⟨by unfold Ie Ha;((try simp only[BA,XB,List.nil_append]);repeat' ((with_reducible first | intro _ | exact .r0 | apply mB | apply SB | apply iB)))⟩
instance{a0 a1 a2 a3 a4}:NA (Eg a0 a1 a2 a3 a4) (Et a0 a1 a2 a3 a4):=⟨by unfold Et Eg;((try simp only[XB,XS]);repeat' (first | (with_reducible first | intro _ | exact .r0 | apply mB | apply oC | refine .bd inferInstance ?_ | apply SB | apply iB | apply RC | (apply_assumption;done) | apply qC | apply jG) | (refine .s ?_;rfl) | (refine .kk ‹_› ?_;grind [nA,PA,eA])))⟩
instance{a0 a1 a2 a3 a4 a5}:NA (Fj a0 a1 a2 a3 a4 a5) (Gc a0 a1 a2 a3 a4 a5):=⟨by unfold Gc Fj;(repeat' ((with_reducible first | intro _ | exact .r0 | refine .bd inferInstance ?_ | apply iB | apply RC | (apply_assumption;done))))⟩
instance{a0 a1 a2}:NA (Fi a0 a1 a2) (Gb a0 a1 a2):=⟨by unfold Gb Fi;(repeat' ((with_reducible first | intro _ | exact .r0 | refine .bd inferInstance ?_ | apply iB | apply RC | (apply_assumption;done))))⟩
instance{a0}:NA (Fo a0) (Gf a0):=⟨by unfold Gf Fo;((try simp only[oA,uC]);repeat' ((with_reducible first | intro _ | exact .r0 | apply mB | apply oC | refine .bd inferInstance ?_ | apply iB | apply RC | (apply_assumption;done))))⟩
instance{a0}:NA (Hf a0) (Ev a0):=⟨by unfold Ev Hf;((try simp only[oA,ID]);repeat' ((with_reducible first | intro _ | exact .r0 | apply mB | apply oC | refine .bd inferInstance ?_ | apply iB | apply RC | (apply_assumption;done))))⟩
instance{a0}:NA (Cf a0) (Cf a0):=⟨.r0⟩
instance{a0 a1}:NA (Bx a0 a1) (Bx a0 a1):=⟨.r0⟩
instance{a0 a1 a2}:NA (Hd a0 a1 a2) (Ih a0 a1 a2):=⟨by unfold Ih Hd;((try simp only[zgE,List.nil_append]);repeat' (first | (with_reducible first | intro _ | exact .r0 | apply mB | refine .bd inferInstance ?_ | apply SB | apply iB | apply RC | (apply_assumption;done) | apply qC | apply jG) | (refine .kk ‹_› ?_;grind [nA,PA,eA])))⟩
instance{a0}:NA (Cw a0) (Cw a0):=⟨.r0⟩
instance{a0 a1}:NA (He a0 a1) (Ii a0 a1):=⟨by unfold Ii He;((try simp only[BA,uE,List.nil_append]);repeat' ((with_reducible first | intro _ | exact .r0 | apply mB | apply SB | apply iB)))⟩
instance{a0 a1 a2 a3}:NA (Fl a0 a1 a2 a3) (Gd a0 a1 a2 a3):=⟨by unfold Gd Fl;(repeat' (first | (with_reducible first | intro _ | exact .r0 | refine .bd inferInstance ?_ | apply iB) | (refine .s ?_;grind [nA,PA,eA,RB,tC,List.length_eq_zero_iff])))⟩
instance:NA (Fm) (Ky):=⟨by unfold Ky Fm;(repeat' (first | with_reducible apply RG | dsimp only[cond_true,cond_false]));(refine Ag.lI (λx=>∃i:Nat,x=(λi:Nat=>((i:Int),(⟨-1,List.replicate i 0⟩:Aq))) i∧i≤32) ⟨0,by first | rfl | simp,by decide⟩ (λx k hx hk=>?_) _;obtain⟨i,hx,h2⟩:=hx;have hi:(i:Int)<32→iA .i64 (i:Int) 1=((i+1:Nat):Int):=λh=>(by rw[DA (by omega) (by omega)];omega);subst hx;refine .cr (λhc=> .gr λ_=>hk _ ⟨i+1,?_,?_⟩) λhc=>?_;(· simp only[B]at hc;simp[hi hc,List.replicate_succ']);(· simp only[B]at hc;omega);have he:i=32:=(by simp only[B]at hc;omega);subst he;try dsimp only);(repeat' ((refine .s ?_;grind [nA,PA,eA,RB,tC,List.length_eq_zero_iff])))⟩
instance{a0 a1}:NA (By a0 a1) (Df a0 a1):=⟨by unfold Df By;((try simp only[BA,List.nil_append]);repeat' ((with_reducible first | intro _ | exact .r0 | apply mB | refine .bd inferInstance ?_ | apply SB | apply iB | apply RC | (apply_assumption;done))))⟩
instance{a0 a1 a2}:NA (Ei a0 a1 a2) (Ge a0 a1 a2):=⟨by unfold Ge Ei;((try simp only[BA,List.nil_append]);repeat' (first | (with_reducible first | intro _ | exact .r0 | apply mB | refine .bd inferInstance ?_ | apply SB | apply iB | apply RC | (apply_assumption;done) | apply qC | apply jG) | (refine .kk ‹_› ?_;grind [nA,PA,eA])))⟩
instance{a0 a1 a2 a3}:NA (Fn a0 a1 a2 a3) (Eu a0 a1 a2 a3):=⟨by unfold Eu Fn;((try simp only[BA,VC,List.nil_append]);repeat' (first | (with_reducible first | intro _ | exact .r0 | apply mB | refine .bd inferInstance ?_ | apply SB | apply iB | apply RC | (apply_assumption;done) | apply rD | apply qC | refine .bT inferInstance ‹_› ?_ | apply jG) | (refine .kk ‹_› ?_;grind [nA,PA,eA])))⟩
instance{a0 a1}:NA (Bi a0 a1) (Bi a0 a1):=⟨.r0⟩
instance{a0 a1 a2}:NA (Do a0 a1 a2) (Dt a0 a1 a2):=⟨by unfold Dt Do;((try simp only[BA,List.nil_append]);repeat' ((with_reducible first | intro _ | exact .r0 | apply mB | apply SB)))⟩
instance{a0}:NA (Bh a0) (Bh a0):=⟨.r0⟩
instance{a0 a1 a2 a3 a4}:NA (Eh a0 a1 a2 a3 a4) (De a0 a1 a2 a3 a4):=⟨by unfold De Eh;((try simp only[XB,XS]);repeat' (first | (with_reducible first | intro _ | exact .r0 | apply mB | apply oC | apply SB | apply iB | apply RC | (apply_assumption;done) | apply qC | refine .ct ‹_› ?_ | refine .cf ‹_› ?_ | apply jG) | (refine .s ?_;rfl) | (refine .kk ‹_› ?_;grind [nA,PA,eA])))⟩
instance{a0 a1}:NA (Cv a0 a1) (Cv a0 a1):=⟨.r0⟩
instance{a0 a1}:NA (Bo a0 a1) (Bo a0 a1):=⟨.r0⟩
instance{a0 a1}:NA (Bm a0 a1) (Bm a0 a1):=⟨.r0⟩
instance{a0 a1 a2 a3}:NA (Hb a0 a1 a2 a3) (If a0 a1 a2 a3):=⟨by unfold If Hb;((try simp only[VC]);repeat' (first | (with_reducible first | intro _ | exact .r0 | apply mB | refine .bd inferInstance ?_ | apply iB | apply RC | (apply_assumption;done) | apply qC | apply jG) | (refine .kk ‹_› ?_;grind [nA,PA,eA])))⟩
instance{a0 a1 a2 a3 a4 a5}:NA (Fk a0 a1 a2 a3 a4 a5) (Ds a0 a1 a2 a3 a4 a5):=⟨by unfold Ds Fk;(repeat' ((with_reducible first | intro _ | exact .r0 | refine .bd inferInstance ?_ | apply iB | apply RC | (apply_assumption;done))))⟩
instance{a0 a1}:NA (Hc a0 a1) (Ig a0 a1):=⟨by unfold Ig Hc;((try simp only[VC]);repeat' ((with_reducible first | intro _ | exact .r0 | apply mB | apply iB | apply RC | (apply_assumption;done) | apply rD | apply qC | refine .bT inferInstance ‹_› ?_ | refine .ct ‹_› ?_ | refine .cf ‹_› ?_ | apply jG)))⟩
instance{a0 a1}:NA (Bp a0 a1) (Cl a0 a1):=⟨by unfold Cl Bp Hg;have h1:=@JA a0.Top 1024;have h2:=@DA (sA .i64 a0.Top 1024) 1;((try simp only[ZF,bc,bs]);repeat' (first | (with_reducible first | intro _ | apply fF | apply kF | exact .r0 | apply mB | apply oC | apply iB) | (with_reducible refine Ag.cr (λ_=>?_) (λ_=>?_)<;>try (exfalso;grind (splits:=3) [nA,PA,eA,gD];done)) | with_reducible apply qC | (refine .s ?_;grind [nA,PA,eA,RB,tC,List.length_eq_zero_iff,gD])))⟩
instance{a0 a1}:NA (Cg a0 a1) (Dg a0 a1):=⟨by exact ztd⟩
instance{a0 a1 a2}:NA (Hh a0 a1 a2) (Ij a0 a1 a2):=⟨by unfold Ij Hh;(repeat' ((with_reducible first | intro _ | exact .r0 | refine .bd inferInstance ?_ | apply iB | apply RC | (apply_assumption;done))))⟩
instance{a0 a1 a2}:NA (Cy a0 a1 a2) (Ew a0 a1 a2):=⟨by unfold Ew Cy;((try simp only[oA]);repeat' (first | (with_reducible first | intro _ | apply fF | apply kF | exact .r0 | apply mB | apply oC | refine .bd inferInstance ?_ | apply iB | refine .ct ‹_› ?_ | refine .cf ‹_› ?_) | (with_reducible refine Ag.cr (λ_=>?_) (λ_=>?_)<;>try (exfalso;grind (splits:=3) [nA,PA,eA, →zsC];done)) | (with_reducible first | apply rD | apply qC | refine .bT inferInstance ‹_› ?_ | apply DE)))⟩
instance{a0 a1 a2}:NA (Ej a0 a1 a2) (Dh a0 a1 a2):=⟨by exact zr1 (λ_ _ _=>NA.h) (λ_ _=>NA.h)⟩
instance{a0 a1}:NA (Fp a0 a1) (Gg a0 a1):=⟨by unfold Gg Fp;((try simp only[uC,BA,List.nil_append]);repeat' ((with_reducible first | intro _ | exact .r0 | apply mB | apply oC | apply SB | apply iB | apply RC | (apply_assumption;done))))⟩
instance{a0 a1 a2 a3}:NA (Ek a0 a1 a2 a3) (Gi a0 a1 a2 a3):=⟨by exact zu0⟩
instance{a0 a1 a2 a3}:NA (Fq a0 a1 a2 a3) (Gh a0 a1 a2 a3):=⟨by exact ztM⟩
instance{a0}:NA (Hi a0) (Ik a0):=⟨by unfold Ik Hi;((try simp only[oA,uE,uC]);repeat' ((with_reducible first | intro _ | exact .r0 | apply mB | apply oC | refine .bd inferInstance ?_ | apply iB | apply RC | (apply_assumption;done))))⟩
instance{a0 a1 a2}:NA (Hj a0 a1 a2) (Il a0 a1 a2):=⟨by unfold Il Hj;have h1:=@JA a0.Cur.N 1;((try simp only[oA,uC,DB]);repeat' (first | (with_reducible first | intro _ | apply fF | apply kF | exact .r0 | apply mB | apply oC | refine .bd inferInstance ?_ | apply iB) | (with_reducible refine Ag.cr (λ_=>?_) (λ_=>?_)<;>try (exfalso;grind (splits:=3) [nA,PA,eA,YC];done)) | (with_reducible first | apply rD | apply qC | apply DE) | (refine .s ?_;grind [nA,PA,eA,RB,tC,List.length_eq_zero_iff,YC])))⟩
instance{a0 a1 a2 a3 a4}:NA (Hk a0 a1 a2 a3 a4) (Gj a0 a1 a2 a3 a4):=⟨by unfold Gj Hk La;((try simp only[oA,BA,List.nil_append,ba,bc,bs,ID]);repeat' (first | (with_reducible first | intro _ | exact .r0 | apply mB | apply oC | refine .bd inferInstance ?_ | apply BD | apply SB | apply iB | apply RC | (apply_assumption;done) | apply zhi | (apply QM;simp only[ba,bc,bs,bn]) | apply rD | apply qC | apply RG | refine .bT inferInstance ‹_› ?_ | refine .ct ‹_› ?_ | refine .cf ‹_› ?_ | apply DE | apply jG) | (refine .s ?_;grind [nA,PA,eA,RB,tC,List.length_eq_zero_iff])))⟩
instance{a0 a1 a2 a3}:NA (Hm a0 a1 a2 a3) (Im a0 a1 a2 a3):=⟨by
 unfold Im Hm
 (try simp only[oA,JC,jE,aE,List.nil_append,KD,DB,BA,ba])
 refine .pl λ_=> .pr λ_=> .jBl (.jBr (.pl λ_=> .pr λ_=> .cc (λ_=> .r0) λhs=> .cc (λ_=> .r0) λhn=> .cc (λ_=> .r0) λha=> .bd inferInstance λcr hcr _=> .bd inferInstance λfr KW _=>?_));refine Ag.hj (λk k'=>(∀y z,y.1=z.1→y.2.1=z.2.1→y.2.2=z.2.2.1→Ag (k y) (k' z))∧(∀y,y.1=[]→Ag (k y) (some (y.2.2,[],y.2.1)))) ⟨?_,?_⟩ λk k' hk=>?_
 ·rintro⟨o,n,s⟩ ⟨o',n',s',d⟩ e1 e2 e3;cases e1;cases e2;cases e3;exact zwX (λ_ _=>NA.h) (λ_=>NA.h) (λ_ _ _=>NA.h)
 ·rintro⟨o,n,s⟩ e1;exact .jl (zvR e1 .r0)
 obtain⟨SZ,KZ⟩:=hk;refine .ce (by rfl) (λ_=>KZ _ rfl) λhf=>?_;have S:=qF.1 (by simpa using hs)
 have hD:a0.D.N≤10000:=by
  have:=S.dice;simp only[gC,Bool.and_eq_true,fC]at this;omega
 have hT:=S.tab;have hfo:=zsg KW (by simpa using hf);have W6:(SC a0.D).2.length≤100:=by have:=rL a0.D;omega
 generalize fr.1=f at *;cases h1:(f.Kind==1)
 ·cases h3:(f.Kind==3)
  ·cases h4:jC f.Kind
   ·simp only[aA,cond_true,cond_false];exact SZ _ _ rfl rfl rfl
   ·simp only[aA,cond_true,cond_false];unfold Lb
    (try simp only[oA,JC,jE,aE,List.nil_append,KD,DB,BA,ba])
    simp only[ba,bc,bs,bn,aA];refine .pl λ_=> .pr λ_=> .cc (λ_=>KZ _ rfl) λhn=> .bd inferInstance λe he _=> .cc (λ_=>KZ _ rfl) λhd=> .pl λ_=> .pr λ_=> .bd inferInstance λm _ _=> .cc (λ_=>?_) λ_=>?_
    ·have hz:([]:List UInt8).length≤100:=by decide
     ((try simp only[oA,JC,jE,aE,List.nil_append,KD,DB,BA,ba]);repeat' (first | (with_reducible first | intro _ | apply mB | apply oC | refine .bd inferInstance ?_ | apply BD | apply SB | apply iB | refine .ct ‹_› ?_ | refine .cf ‹_› ?_) | (with_reducible refine Ag.cr (λ_=>?_) (λ_=>?_)<;>try (exfalso;grind (splits:=3) [nA,PA,eA, →TS];done)) | (with_reducible first | (apply QM;simp only[ba,bc,bs,bn]) | apply rD | apply qC | refine .bT inferInstance ‹_› ?_ | refine .bR ‹_› ?_ | refine .bI ‹_› ?_ | apply DE) | (exfalso;grind [nA,PA,eA, →TS])))
     all_goals first | exact KZ _ rfl | (refine SZ _ _ ?_ ?_ ?_<;>first | rfl | grind [→TS])
    ·((try simp only[oA,JC,jE,aE,List.nil_append,KD,DB,BA,ba]);repeat' (first | (with_reducible first | intro _ | apply mB | apply oC | refine .bd inferInstance ?_ | apply BD | apply SB | apply iB | refine .ct ‹_› ?_ | refine .cf ‹_› ?_) | (with_reducible refine Ag.cr (λ_=>?_) (λ_=>?_)<;>try (exfalso;grind (splits:=3) [nA,PA,eA, →TS];done)) | (with_reducible first | (apply QM;simp only[ba,bc,bs,bn]) | apply rD | apply qC | refine .bT inferInstance ‹_› ?_ | refine .bR ‹_› ?_ | refine .bI ‹_› ?_ | apply DE) | (exfalso;grind [nA,PA,eA, →TS])))
     all_goals first | exact KZ _ rfl | (refine SZ _ _ ?_ ?_ ?_<;>first | rfl | grind [→TS])
  ·simp only[aA,cond_true,cond_false];unfold Kz
   (try simp only[oA,JC,jE,aE,List.nil_append,KD,DB,BA,ba])
   refine .jbl ?_;simp only[ba,bc,bs,bn,aA];refine .bd inferInstance λj _ _=> .cc (λ_=>KZ _ rfl) λhj=> .cc (λ_=>KZ _ rfl) λhid=> .bd inferInstance λp hp _=> .bd inferInstance λok _ _=> .cc (λ_=>KZ _ rfl) λ_=> .pl λ_=> .pr λ_=> .cc (λhn=>?_) λhn=>?_
   ·refine .bd inferInstance λp2 _ _=> .bd inferInstance λs HX _=> .bd inferInstance λt ht _=> .cc (λ_=>KZ _ rfl) λh0=>?_;have h0:t.2=0:=by simpa using h0
    have e1:=zta ht h0;rw[zs6 HX (zfL ht h0).2.2.2]at e1;have e2:=zsF ht h0;simp only[e1]
    ((try simp only[oA,JC,jE,aE,List.nil_append,KD,DB,BA,ba]);repeat' (first | (with_reducible first | intro _ | apply mB | apply oC | refine .bd inferInstance ?_ | apply BD | apply SB | apply iB | refine .ct ‹_› ?_ | refine .cf ‹_› ?_) | (with_reducible refine Ag.cr (λ_=>?_) (λ_=>?_)<;>try (exfalso;grind (splits:=3) [nA,PA,eA, →eT];done)) | (with_reducible first | (apply QM;simp only[ba,bc,bs,bn]) | apply rD | apply qC | refine .bT inferInstance ‹_› ?_ | refine .bR ‹_› ?_ | refine .bI ‹_› ?_ | apply DE) | (exfalso;grind [nA,PA,eA, →eT])))
    all_goals first | exact KZ _ rfl | (refine SZ _ _ ?_ ?_ ?_<;>first | rfl | grind [→eT])
   ·((try simp only[oA,JC,jE,aE,List.nil_append,KD,DB,BA,ba]);repeat' (first | (with_reducible first | intro _ | apply mB | apply oC | refine .bd inferInstance ?_ | apply BD | apply SB | apply iB | refine .ct ‹_› ?_ | refine .cf ‹_› ?_) | (with_reducible refine Ag.cr (λ_=>?_) (λ_=>?_)<;>try (exfalso;grind (splits:=3) [nA,PA,eA, →eT];done)) | (with_reducible first | (apply QM;simp only[ba,bc,bs,bn]) | apply rD | apply qC | refine .bT inferInstance ‹_› ?_ | refine .bR ‹_› ?_ | refine .bI ‹_› ?_ | apply DE) | (exfalso;grind [nA,PA,eA, →eT])))
    all_goals first | exact KZ _ rfl | (refine SZ _ _ ?_ ?_ ?_<;>first | rfl | grind [→eT])
 ·simp only[aA,cond_true,cond_false];unfold Kx
  ((try simp only[oA,JC,jE,aE,List.nil_append,KD,DB,BA,ba]);repeat' (first | (with_reducible first | intro _ | apply mB | apply oC | refine .bd inferInstance ?_ | apply BD | apply SB | apply iB | refine .ct ‹_› ?_ | refine .cf ‹_› ?_) | (with_reducible refine Ag.cr (λ_=>?_) (λ_=>?_)<;>try (exfalso;grind (splits:=3) [nA,PA,eA];done)) | (with_reducible first | (apply QM;simp only[ba,bc,bs,bn]) | apply rD | apply qC | refine .bT inferInstance ‹_› ?_ | refine .bR ‹_› ?_ | refine .bI ‹_› ?_ | apply DE) | (exfalso;grind [nA,PA,eA])))
  all_goals first
   | exact KZ _ rfl
   | exact SZ _ _ rfl rfl rfl
   | skip⟩
instance{a0}:NA (Fe a0) (Dx a0):=⟨by unfold Dx Fe;((try simp only);repeat' ((with_reducible first | intro _ | exact .r0 | refine .bd inferInstance ?_ | apply BD | apply SB | apply iB | apply AL | apply RC | (apply_assumption;done) | apply rD | refine .bT inferInstance ‹_› ?_ | refine .bR ‹_› ?_)))⟩
instance{a0 a1 a2}:NA (Fr a0 a1 a2) (Ey a0 a1 a2):=⟨by unfold Ey Fr;((try simp only[BA,VC,oA]);repeat' (first | (with_reducible first | intro _ | apply fF | apply kF | exact .r0 | apply mB | apply oC | refine .bd inferInstance ?_ | apply iB) | (with_reducible refine Ag.cr (λ_=>?_) (λ_=>?_)<;>try (exfalso;grind (splits:=3) [nA,PA,eA,zam];done)) | (with_reducible first | apply rD | apply qC | apply DE) | (refine .s ?_;grind [nA,PA,eA,RB,tC,List.length_eq_zero_iff,zam])))⟩
instance{a0 a1 a2}:NA (En a0 a1 a2) (In a0 a1 a2):=⟨by unfold In En Lc Ld;have hc:=λh=>(@zxr a0 h);((try simp only[oA,BA,ba,bc,bs,DB,OD,VC,List.nil_append]);repeat' (first | (with_reducible first | intro _ | apply fF | apply kF | exact .r0 | apply mB | apply oC | refine .bd inferInstance ?_ | apply BD | apply SB | apply iB | refine .ct ‹_› ?_ | refine .cf ‹_› ?_) | (with_reducible refine Ag.cr (λ_=>?_) (λ_=>?_)<;>try (exfalso;grind (splits:=3) [nA,PA,eA, →zfr, →zjC, →zjP];done)) | (with_reducible first | (apply QM;simp only[ba,bc,bs,bn]) | apply rD | apply qC | apply RG | refine .bT inferInstance ‹_› ?_ | apply DE) | (refine .s ?_;grind [nA,PA,eA,RB,tC,List.length_eq_zero_iff, →zfr, →zjC, →zjP])))⟩
instance{a0 a1}:NA (Gs a0 a1) (Di a0 a1):=⟨by unfold Di Gs;((try simp only[oA,BA,ID,List.nil_append]);repeat' (first | (with_reducible first | intro _ | apply fF | apply kF | exact .r0 | apply mB | apply oC | refine .bd inferInstance ?_ | apply SB | apply iB) | (refine .s ?_;grind [nA,PA,eA,RB,tC,List.length_eq_zero_iff, →zfr,lF,UM])))⟩
instance{a0 a1 a2 a3}:NA (Gt a0 a1 a2 a3) (Io a0 a1 a2 a3):=⟨by unfold Io Gt;have h1:=λh=>@zmt a0 h;((try simp only[oA,JC]);repeat' (first | (with_reducible first | intro _ | apply fF | apply kF | exact .r0 | apply mB | apply oC | refine .bd inferInstance ?_ | apply SB | apply iB) | (with_reducible refine Ag.cr (λ_=>?_) (λ_=>?_)<;>try (exfalso;grind (splits:=3) [nA,PA,eA, →zl1, →zfs];done)) | (with_reducible first | apply rD | apply qC | apply RG | refine .bI ‹_› ?_ | apply DE) | (refine .s ?_;grind [nA,PA,eA,RB,tC,List.length_eq_zero_iff, →zl1, →zfs])))⟩
instance{a0}:NA (Ho a0) (Ez a0):=⟨by unfold Ez Ho;((try simp only[oA,jE,aE,BA,JC,List.nil_append]);repeat' ((with_reducible first | intro _ | exact .r0 | apply mB | apply oC | apply SB | apply iB | apply RC | (apply_assumption;done))))⟩
instance{a0}:NA (Ce a0) (Fa a0):=⟨by unfold Fa Ce;((try simp only[ID,oA,BA,List.nil_append]);repeat' ((with_reducible first | intro _ | exact .r0 | apply mB | apply oC | apply SB | apply iB)))⟩
instance{a0 a1}:NA (Hq a0 a1) (Ip a0 a1):=⟨by unfold Ip Hq Ci Fg;have h1:=λh=>@zmt a0 h;((try simp only[oA,JC,BA,ba,bs,List.nil_append,bc,bn]);repeat' (first | (with_reducible first | intro _ | apply fF | apply kF | exact .r0 | apply mB | apply oC | refine .bd inferInstance ?_ | apply SB | apply iB) | (with_reducible refine Ag.cr (λ_=>?_) (λ_=>?_)<;>try (exfalso;grind (splits:=3) [nA,PA,eA, →zlG];done)) | (with_reducible first | apply rD | apply qC | refine .bR ‹_› ?_ | refine .bI ‹_› ?_ | apply DE) | (refine .s ?_;grind [nA,PA,eA,RB,tC,List.length_eq_zero_iff, →zlG])))⟩
instance{a0}:NA (Hr a0) (Gk a0):=⟨by unfold Gk Hr;((try simp only[uC,BA,List.nil_append]);repeat' ((with_reducible first | intro _ | exact .r0 | apply mB | apply oC | apply BD | apply SB | apply iB | apply RC | (apply_assumption;done))))⟩
instance{a0 a1}:NA (Bu a0 a1) (Bu a0 a1):=⟨.r0⟩
instance{a0 a1}:NA (Bv a0 a1) (Dj a0 a1):=⟨by unfold Dj Bv Du;((try simp only[oA,ba,bx,BH]);repeat' ((with_reducible first | intro _ | exact .r0 | apply mB | apply oC | refine .bd inferInstance ?_ | apply BD | apply SB | apply iB | apply AL | apply RC | (apply_assumption;done) | refine .bR ‹_› ?_)))⟩
instance{a0 a1}:NA (Gv a0 a1) (Ir a0 a1):=⟨by unfold Ir Gv;((try simp only[oA,ID]);repeat' ((with_reducible first | intro _ | exact .r0 | apply mB | apply oC | refine .bd inferInstance ?_ | apply iB | apply RC | (apply_assumption;done))))⟩
instance{a0 a1}:NA (Gw a0 a1) (Is a0 a1):=⟨by unfold Is Gw;((try simp only[oA,uG]);repeat' ((with_reducible first | intro _ | exact .r0 | apply mB | apply oC | refine .bd inferInstance ?_ | apply BD | apply SB | apply iB | apply AL | apply RC | (apply_assumption;done))))⟩
instance{a0 a1}:NA (Gx a0 a1) (Iu a0 a1):=⟨by unfold Iu Gx Ci Fg;((try simp only[oA,KD,BA,ba,bs,JC,List.nil_append,bc,bn]);repeat' ((with_reducible first | intro _ | exact .r0 | apply mB | apply oC | refine .bd inferInstance ?_ | apply BD | apply SB | apply iB | apply AL | apply RC | (apply_assumption;done) | apply rD | apply qC | refine .bR ‹_› ?_ | refine .ct ‹_› ?_ | refine .cf ‹_› ?_)))⟩
instance{a0 a1}:NA (Cq a0 a1) (Cq a0 a1):=⟨.r0⟩
instance{a0 a1}:NA (Cs a0 a1) (Dy a0 a1):=⟨by unfold Dy Cs;((try simp only);repeat' (first | (with_reducible first | intro _ | exact .r0 | refine .bd inferInstance ?_ | apply iB | apply RG | apply jG) | (refine .s ?_;grind [nA,PA,eA,RB,tC,List.length_eq_zero_iff,YD])))⟩
instance{a0 a1}:NA (Gu a0 a1) (Iq a0 a1):=⟨by unfold Iq Gu Lh Dr Ci Dm;((try simp only[oA,BA,ba,bs,bc,OD,QI,List.nil_append]);repeat' (first | (with_reducible first | intro _ | apply fF | apply kF | exact .r0 | apply mB | apply oC | refine .bd inferInstance ?_ | apply SB | apply iB | refine .ct ‹_› ?_ | refine .cf ‹_› ?_) | (with_reducible refine Ag.cr (λ_=>?_) (λ_=>?_)<;>try (exfalso;grind (splits:=3) [nA,PA,eA,zhB, →zjp,sB];done)) | (with_reducible first | (apply QM;simp only[ba,bc,bs,bn]) | apply rD | apply qC | apply RG | refine .bT inferInstance ‹_› ?_ | apply DE) | (refine .s ?_;grind [nA,PA,eA,RB,tC,List.length_eq_zero_iff,zhB, →zjp,sB])))⟩
instance{a0 a1}:NA (Fu a0 a1) (Gm a0 a1):=⟨by unfold Gm Fu;((try simp only[BA,aK]);repeat' ((with_reducible first | intro _ | exact .r0 | apply mB | apply oC)))⟩
end Go.D
namespace Go.D
def Ag.li{α σ:Type}(I:σ→Prop){f f':σ→(σ→Option α)→Option α}{x0:σ}(h0:I x0)(e:∀x k k',I x→(∀y,I y→Ag (k y) (k' y))→Ag (f x k) (f' x k')):∀n,Ag (uA n f x0) (uA n f' x0):=by
 intro n;induction n generalizing x0 with
 | zero=>exact nl
 | succ n ih=>exact e _ _ _ h0 λ_ h=>ih h
def zww{k:Int}:Ag (Ib k) (Dk k):=by
 by_cases h:0≤k∧k≤10
 ·have:k=0∨k=1∨k=2∨k=3∨k=4∨k=5∨k=6∨k=7∨k=8∨k=9∨k=10:=by omega
  rcases this with rfl | rfl | rfl | rfl | rfl | rfl | rfl | rfl | rfl | rfl | rfl<;>exact Ag.r0
 ·unfold Dk;refine .cr (λhc=>absurd ?_ h) λ_=> .nr;simp only[B,List.length_cons,List.length_nil]at hc;omega
instance{k:Int}:NA (Dk k) (Ib k):=⟨zww⟩
end Go.D
namespace Go.D
set_option maxHeartbeats 2000000
def zgQ{α:Type}{l:List α}{m:Nat}{j:Int}(h:m+j.toNat<l.length)(hj:0≤j):lA (List.take ((l.length:Int) - (m:Int)).toNat (List.drop m l)) j=l[m+j.toNat]?:=by
 unfold lA;rw[if_pos hj,List.getElem?_take,if_pos (by omega),List.getElem?_drop]
def Ag.lb{α β σ:Type}{K:α→Option β}{f:σ→(σ→Option α)→Option α}{f':σ→(σ→Option β)→Option β}{x0:σ}(e:∀x k k',(∀y,Ag (Option.bind (k y) K) (k' y))→Ag (Option.bind (f x k) K) (f' x k')):∀n,Ag (Option.bind (uA n f x0) K) (uA n f' x0):=by
 intro n;induction n generalizing x0 with
 | zero=>exact nl
 | succ n ih=>exact e _ _ _ λ_=>ih
def zv7{a0 a1 a2}:Ag (Ga a0 a1 a2) (Fs a0 a1 a2):=by
 unfold Ga Fs
 (try simp only[BA,List.nil_append,yJ,uE])
 refine .cc (λ_=> .r0) λ_=> .jj (λy=>?_) λk k' hk=>Ag.li (λx=>x.1.length≤8) (by decide) (λx k4 k4' hx TV=>?_) _
 ·(repeat' ((with_reducible first | intro _ | exact .r0 | apply mB | refine .bd inferInstance ?_ | apply BD | apply SB | apply iB)))
 ·have hi:=λr:Int=>@JA (x.1.length:Int) r;refine .cc (λ_=> .bd inferInstance λe _ _=> .bl λr6 h6=> .jBl (.jBr (.bd inferInstance λso hso _=> .cc (λ_=> .r0) λhs=> .bT inferInstance h6 λ_=> .ce ?_ (λ_=> .r0) λhl=>?_))) λ_=>hk _
  ·obtain⟨q,hq,hb⟩:=zeX (a0:=e.Kind);cases hq.symm.trans h6;rw[hi r6 (by omega) (by omega)];exact decide_eq_decide.2 (by omega)
  ·obtain⟨q,hq,hb⟩:=zi1 (a0:=e);cases hq.symm.trans hso;obtain⟨q,hq,hc⟩:=zeX (a0:=e.Kind);cases hq.symm.trans h6;have hb:=hb (by simpa using hs);have NV:r6≤(x.1.length:Int):=by simp only[B]at hl;rw[hi r6 (by omega) (by omega)]at hl;omega
   have hi:=hi r6 (by omega) (by omega);obtain⟨m,hm⟩:∃m:Nat,(x.1.length:Int) - r6=m:=⟨_,(Int.toNat_of_nonneg (by omega)).symm⟩;rw[hm]at hi;refine .gl λ_=> .bT inferInstance h6 λ_=>?_;have jY:1≤r6→_:=λh=>zgQ (l:=x.1) (m:=m) (j:=0) (by omega) (by omega);have J2:2≤r6→_:=λh=>zgQ (l:=x.1) (m:=m) (j:=1) (by omega) (by omega);have XZ:3≤r6→_:=λh=>zgQ (l:=x.1) (m:=m) (j:=2) (by omega) (by omega);have e1:iA .i64 (m:Int) 1=((m+1:Nat):Int):=DA (by omega) (by omega);have e2:iA .i64 (m:Int) 2=((m+2:Nat):Int):=DA (by omega) (by omega)
   have h8:decide (((m+1:Nat):Int)>8)=((m:Int)==8):=by
    rw[Bool.eq_iff_iff,decide_eq_true_iff,beq_iff_eq];omega
   have gW:∀(b:List UInt8) (i:Int),((m:Int)==8)=false→Ag (k4 (List.take m x.1++[b],i)) (k4' (List.take m x.1++[b],i)):=λb i h=>TV _ (by have h:=beq_eq_false_iff_ne.1 h;simp only[List.length_append,List.length_take,List.length_cons,List.length_nil];omega);have:e.Kind=1∨e.Kind=2∨e.Kind=3∨e.Kind=4∨e.Kind=5∨e.Kind=6∨e.Kind=7∨e.Kind=8∨e.Kind=9∨e.Kind=10:=by omega
   unfold Kw
   rcases this with h | h | h | h | h | h | h | h | h | h
   all_goals (try have jY:=jY (by omega))
   all_goals (try have J2:=J2 (by omega))
   all_goals (try have XZ:=XZ (by omega))
   all_goals (simp only[h,hi,jY,J2,XZ,aA,beq_self_eq_true,cond_true,cond_false,Int.reduceBEq,ba,bc,bs,bn,h8,e1,e2,List.drop_zero,Int.sub_zero,Int.toNat_natCast,Int.reduceToNat,Nat.add_zero,yJ,zgE,uE,List.nil_append,Bool.not_true,Bool.not_false])
   rotate_left 5
   ·refine .gr λ_=> .bd inferInstance λu hu _=> .gr λ_=> .bd inferInstance λv hv _=> .cl (λh1=> .cf (by simp only[bne,h1];rfl) ?_) λh1=> .ct (by simp only[bne,h1];rfl) .r0;simp only[hu,hv,bs,Kv,aA];refine .lb (λx k k' OW=>?_) _;simp only[ba,bc,bs,bn]
    repeat' (first | exact gW _ _ ‹_› | exact OW _ | (with_reducible first | intro _ | exact .r0 | refine .bd inferInstance ?_ | apply BD | apply SB | apply iB) | fail | (fail) | dsimp only[cond_true,cond_false])
   all_goals (repeat' (first | exact gW _ _ ‹_› | (with_reducible first | intro _ | exact .r0 | apply mB | apply oC | refine .bd inferInstance ?_ | apply BD | apply SB | apply iB) | (with_reducible first | intro _ | apply rD | apply qC | refine .bR ‹_› ?_ | refine .ct ‹_› ?_ | refine .cf ‹_› ?_ | apply DE | apply jG) | ((exfalso;grind [nA,PA,eA])) | dsimp only[cond_true,cond_false]))
instance{a0:List Bc}{a1:List Ap}{a2:List (List UInt8)}:NA (Fs a0 a1 a2) (Ga a0 a1 a2):=⟨zv7⟩
end Go.D
namespace Go.D
open Option renaming bind→ob
set_option maxHeartbeats 1000000
def Ag.bM{α β γ:Type}{x:Option α}{y:Option β}(g:α→β)(h:Ag (ob x λv=>some (g v)) y){f:α→Option γ}{f':β→Option γ}(k:∀v,x=some v→Ag (f v) (f' (g v))):Ag (ob x f) (ob y f'):=by
 cases hx:x with
 | none=>exact nl
 | some v=>
  cases hy:y with
  | none=>exact nr
  | some w=>
   subst hx hy;have:=h _ _ rfl rfl;subst this;exact k v rfl
def Ag.lr{α σ τ:Type}(R:σ→τ→Prop){f:σ→(σ→Option α)→Option α}{f':τ→(τ→Option α)→Option α}{x0:σ}{y0:τ}(h0:R x0 y0)(e:∀x y k k',R x y→(∀x y,R x y→Ag (k x) (k' y))→Ag (f x k) (f' y k')):∀n,Ag (uA n f x0) (uA n f' y0):=by
 intro n;induction n generalizing x0 y0 with
 | zero=>exact nl
 | succ n ih=>exact e _ _ _ _ h0 λ_ _ h=>ih h
def zvO{a0 a1 a2 a3}(ha:tB a0=true)(ht:eA a1 0 2=true)(hf:GA a2=true):Ag (ob (Cm a0 a1 a2 a3) λr=>some (r.2,r.1)) (Hn a0 a1 a2 a3):=by
 unfold Cm Hn
 (try simp only[oA,dG,ba,bc,bs,bn])
 simp only[aA,ha,ht,hf,Bool.not_true,cond_false,cond_true]
 ((try simp only[oA,dG,ba,bc,bs,bn]);repeat' (first | (with_reducible first | intro _ | exact .r0 | apply mB | refine .bd inferInstance ?_ | apply BD | apply SB | apply iB | apply qC | refine .bR ‹_› ?_ | apply DE | apply jG) | (refine .s ?_;grind [nA,PA,eA,RB,tC,List.length_eq_zero_iff])))
def zwB{a0}(ha:tB a0=true)(ht:(a0.Now==1000000)=false):Ag (ob (Dz a0) λr=>some (r.2,r.1)) (Gy a0):=by
 unfold Dz Gy
 (try simp only[oA,dG,ba,bc,bn,bs])
 refine .pl λ_=>?_;simp only[aA,ha,ht,ba];refine .pl λ_=>?_;have hc:(a0.Clients.length:Int)=2:=by rw[(HC.1 ha).cl];rfl
 simp only[Bool.not_true,cond_false,hc];refine .lb (λx k k' hk=>?_) _
 (try simp only[oA,dG,ba,bc,bn,bs])
 (repeat' ((with_reducible first | intro _ | exact .r0 | refine .bd inferInstance ?_ | apply BD | apply SB | apply iB | (apply_assumption;done))))
def zxa{l:List Ap}{x:Ap}:Pc (Iv l x) λr=>r=cond (RD (l++[x])) (l++[x]) l:=by
 unfold Iv
 (try simp only[List.nil_append,oA])
 refine .g λ_=> .g λ_=> .p λ_=> .c (λh=> .p λ_=> .s ?_) λh=> .s ?_
 ·rw[show RD (l++[x])=false by simpa using h];rfl
 ·rw[show RD (l++[x])=true by simpa using h];rfl
def zkr{l:List Ap}{x:Ap}(hl:RD l=true)(hx:OE x=true):RD (l++[x])=decide ((l.length:Int)<90):=by
 simp only[RD,Bool.and_eq_true,Bool.not_eq_true',decide_eq_true_eq,List.any_append,List.any_cons,List.any_nil,hx]at hl⊢;rw[List.length_append,List.length_singleton];rw[hl.1];simp only[Bool.not_true,Bool.or_false,Bool.not_false,Bool.true_and];exact decide_eq_decide.2 (by omega)
def AV{α:Type}{l:List α}{i:Int}{e:α}(h:lA l i=some e):e∈l:=by
 unfold lA at h;split at h
 ·exact List.mem_of_getElem? h
 ·cases h
def ZS{w:Ab}{l:List Ap}{ns:List Ad}(hs:RD w.Seen=true)(hl:∀x∈l,OE x=true):Ag (Ca ⟨w.Now,w.Clients,w.S,w.D,w.Seen,w.Known,w.Notes++ns⟩ l) (Cc w l ns):=by
 unfold Ca Cc
 (try simp only[oA])
 simp only[aA];refine .pl λ_=>Ag.lr (λx y=>x.1=y.1∧RD y.2.Seen=true∧x.2=⟨y.2.Now,y.2.Clients,y.2.S,y.2.D,y.2.Seen,y.2.Known,w.Notes++ns⟩∧y.2.Notes=w.Notes) ⟨rfl,hs,rfl,rfl⟩ (λx y k k' ⟨h1,h2,h3,h4⟩ hk=>?_) _;rw[h1];refine .cc (λ_=> .bl λe he=> .bl λr hr=>?_) λ_=> .gr λ_=> .s (by rw[h3,h4]);have hr:=zxa r hr;have hm:=AV he;have h5:x.2.Seen=y.2.Seen:=by rw[h3]
 rw[h5,zkr h2 (hl _ hm)]at hr;refine .cr (λh=>?_) λh=>hk _ _ ⟨rfl,h2,?_,h4⟩
 ·rw[h,cond_true]at hr;refine .bR he (.gr λ_=>hk _ _ ⟨rfl,?_,?_,h4⟩)
  ·show RD (y.2.Seen++[e])=true
   rw[zkr h2 (hl _ hm)];exact h
  ·rw[hr,h3]
 ·rw[h,cond_false]at hr;rw[hr,h3]
def zee{w:Ab}{i:Int}{c:Ae}{fs:List Aa}{ns:List Ad}(hs:RD w.Seen=true)(hc:sB c=true)(hf:wt fs≤400):
  Ag (cond (decide (0≤i)&&decide (i<(w.Clients.length:Int))) (ob (w.Clients[i.toNat]?) λ_=>cond (decide (w.Notes.length+ns.length≤bA)) (ob (Cj c fs) λr24=>ob (Ca ⟨w.Now,List.set w.Clients i.toNat c,w.S,w.D,w.Seen,w.Known,w.Notes++ns⟩ r24) λr53=>some (r53,true)) none) none)
  (ob (Dl w i c fs ns) λr=>some (r,true)):=by
 unfold Dl
 (try simp only[bc,ba,bs,bn])
 refine .gl λ_=> .cr (λ_=> .bd inferInstance λ_ _ _=> .gl λ_=> .bd inferInstance λr hr _=> .b (ZS (w:=⟨w.Now,List.set w.Clients i.toNat c,w.S,w.D,w.Seen,w.Known,w.Notes⟩) hs ?_) λ_ _ _=> .r0) λ_=> .nr;obtain⟨q,hq,_,h⟩:=@zaL c fs (by have:=(UD hc).1;omega) (by omega);cases hq.symm.trans hr;exact λx hx=>((h (zeb hc)).1 x hx).1
def zwA{n:Int}(h:0≤n∧n≤255):GA (zB n)=true:=by
 unfold zB;rw[if_pos h];simp only[GA,Bool.and_eq_true,Bool.or_eq_true,fC,beq_iff_eq];omega
def zd0{w:Ab}{b:Bool}:Ag (ob (Ca w []) λr=>some (r,b)) (some (w,b)):=by
 have h:Pc (Ca w []) λr=>r=w:=by
  unfold Ca
  (try simp only[oA])
  refine .p λ_=> .j (.l (λx=>x=(0,w)) rfl (λx k hx hk=>?_) _);subst hx;exact .s rfl
 exact .bl λr hr=> .s (by rw[h r hr])
def zu2{c:Ae}:Pc (Cj c []) λr=>r=[]:=by
 unfold Cj
 (try simp only)
 refine .j (.l (λx=>x=([],0)) rfl (λx k hx hk=>?_) _);subst hx;exact .s rfl
def zmE:Pc (Dx []) λr=>r=[]:=by
 unfold Dx
 (try simp only)
 refine .j (.l (λx=>x=([],0)) rfl (λx k hx hk=>?_) _);subst hx;exact .s rfl
def zv5{s:Ac}(hs:MB s=true):Pc (Ez s) λr=>((r.2.length:Int)==0)= !decide (s.D.N<10000):=by
 unfold Ez
 (try simp only[oA,jE,aE,BA,JC])
 have hd:=(qF.1 hs).dice;simp only[gC,Bool.and_eq_true,fC]at hd;refine .p λ_=> .j (.p λ_=> .c (λh=>by rw[hs]at h;cases h) λ_=>?_);cases h:s.D.N==10000
 ·refine .p λ_=> .p λ_=> .p λ_=> .s ?_;rw[decide_eq_true (by have:=beq_eq_false_iff_ne.1 h;omega)];rfl
 ·refine .s ?_;rw[decide_eq_false (by have:=beq_iff_eq.1 h;omega)];rfl
def zay{a0:Ab}{a1:Int}{a2:Ai}{a3:List UInt8}(ha:tB a0=true)(hn:wt a0≤400000000)(h:0≤a1∧a1≤2)(hf:GA a2=true)(hb:wt a3≤900000000):
  Ag (ob (Cm a0 a1 a2 a3) λv=>ob (Ca v.1 v.2) λr=>some (r,true)) (ob (Cz a0 a1 a2 a3) λr=>some (r,true)):=by
 unfold Cz
 (try simp only[ba,bs])
 refine .bM (λr=>(r.2,r.1)) (zvO ha (fC.2 h) hf) λv hv=>?_;obtain⟨q,hq,E⟩:=@zgu a0 a1 a2 a3 ha hn h.1 h.2 hb;cases hq.symm.trans hv;have:=ZS (w:=v.1) (ns:=[]) (HC.1 E.ok).seen E.wires;rw[List.append_nil]at this;exact .b this λ_ _ _=> .r0
def zlV{w:Ab}{c:Ak}:Ag (ob (Gk c) λv=>cond (decide (w.Known.length+v.length≤bA)) (ob (pt (wt c.Sn≤bA) c.Sn) λs=>cond (decide (w.Notes.length+[(⟨13,0,0,[],s,0,0,[],[],(⟨0,0⟩:Ai),0⟩:Ad)].length≤bA)) (cond (!decide (((w.Known++v).length:Int)≤12)) (some (w,false)) (ob (Ca ⟨w.Now,w.Clients,w.S,w.D,w.Seen,w.Known++v,w.Notes++[(⟨13,0,0,[],s,0,0,[],[],(⟨0,0⟩:Ai),0⟩:Ad)]⟩ []) λr=>some (r,true))) none) none)
  (ob (Ft w c) λr=>some (cond r.1 r.2 w,r.1)):=by
 unfold Ft
 (try simp only[List.nil_append,ba,bc,bs,bn])
 refine .bd inferInstance λv hv _=> .gl λh1=> .pl λ_=> .gl λ_=> .ce ?_ (λ_=> .r0) λ_=> .gr λ_=> .gr λ_=> .gr λ_=>zd0;have h1:=of_decide_eq_true h1;have:=GB;rw[DA (by omega) (by omega),List.length_append, ←decide_not];exact decide_eq_decide.2 (by omega)
def zxu{a0 a1}(ha:tB a0=true)(hn:wt a0≤400000000)(hw:wt a1≤300000)(he:eF a1=true)(hl:decide ((a0.Notes.length:Int)>500)=false):Ag (Gn a0 a1) (ob (Fv a0 a1) λr=>some (cond r.1 r.2 a0,r.1)):=by
 have hp:∀{α:Type} (v:α),pt (wt a0≤bA) v=some v:=λ_=>pA (by have:=GB;omega);have W:=HC.1 ha;have hs:=W.seen;have hf:=nO he;have F:=jO ha
 have hP:∀a,HM a0 a≤2:=λa=>by
  obtain⟨q,hq,_,h⟩:=@zcc a0 a (by have:=GB;omega) F.2.2.2.2.2.1;cases(hp _).symm.trans hq;exact h
 simp only[HT]at F;have hj:0≤zA .i64 a1.J 3∧zA .i64 a1.J 3<3:=mI (by omega) (by omega);have lX:0≤zA .i64 a1.N 256∧zA .i64 a1.N 256<256:=mI (by omega) (by omega);have R8:=zwA (n:=zA .i64 a1.N 256) ⟨lX.1,by omega⟩
 have hX:∀x∈a0.Seen,GA x.From=true∧wt x.B≤900000000:=λx hx=>by
  have h1:=hs;simp only[RD,Bool.and_eq_true,Bool.not_eq_true',List.any_eq_false]at h1;have:=h1.1 x hx;simp only[OE,Bool.and_eq_true,decide_eq_true_eq]at this;exact⟨by grind,by simp only[N];grind⟩
 have hk:a1.Kind=1∨a1.Kind=2∨a1.Kind=3∨a1.Kind=4∨a1.Kind=5∨a1.Kind=6∨a1.Kind=7∨a1.Kind=8∨a1.Kind=9∨a1.Kind=10∨a1.Kind=11∨a1.Kind=12∨a1.Kind=13∨a1.Kind=14∨a1.Kind=15∨a1.Kind=16∨a1.Kind=17:=by omega
 unfold Gn Fv Ku Lf Lg Le
 (try simp only[oA,jE,aE,bc,ba,bn,bL,BA,bs,dG,List.nil_append])
 rcases hk with h | h | h | h | h | h | h | h | h | h | h | h | h | h | h | h | h
 all_goals simp(config:={decide:=false}) only[h,hp,ha,he,hl,aA,Bool.not_true,Bool.not_false,cond_true,cond_false,Int.reduceBEq,ge_iff_le,Int.reduceLE,decide_true,decide_false,beq_self_eq_true,ba,bs,bc,bn,bne]
 ·refine .cl (λhc1=> .bl λc hc=> .pl λd6=> .pl λT9=> .gl λhp3=>?_) λ_=> .nl;refine .pr λ_=> .ct hc1 (.bR hc (.bd inferInstance λv hv _=> .cr (λh1=>?_) λh1=> .pr λ_=> .gr λ_=>?_))
  ·simp only[h1,cond_true];exact .gl λ_=> .bl λ_ _=> .gl λ_=> .bl λ_ _=> .r0
  ·simp only[h1,cond_false];obtain⟨q,hq,p1,p2,p3,p4,p5⟩:=@zjz c a0.Now (SC a0.D).2 (fT ha (List.mem_of_getElem? hc)) (by have:=(rL a0.D).2.1;omega);cases hq.symm.trans hv;exact zee (w:=⟨a0.Now,a0.Clients,a0.S,(SC a0.D).1,a0.Seen,a0.Known,a0.Notes++[LE (SC a0.D).2]⟩) hs p1 p5.2
 ·refine .cc (λ_=> .bd inferInstance λc hc _=> .bd inferInstance λv hv _=> .cr (λh1=>?_) λh1=>?_) λ_=> .nr
  ·simp only[h1,cond_true];exact .gl λ_=> .bl λ_ _=> .gl λ_=> .bl λ_ _=> .r0
  ·simp only[h1,cond_false];obtain⟨q,hq,p1,p2,p3,p4,p5⟩:=@zh8 c a0.Now a1.B (fT ha (List.mem_of_getElem? hc)) (by omega);cases hq.symm.trans hv;exact zee hs p1 p5.2
 ·refine .bd inferInstance λv hv _=> .gl λ_=> .cr (λh1=>?_) λh1=> .bd inferInstance λl hl _=>?_
  ·simp only[h1,cond_true];exact .bl λ_ _=> .r0
  ·simp only[h1,cond_false];obtain⟨q,hq,p1,p2,p3,p4,p5⟩:=@zh9 a0.S a0.Now a1.I a1.B W.srv (by simp only[N];omega);cases hq.symm.trans hv;obtain⟨q,hq,_,p6⟩:=@ze1 v.2.1 (by omega) p3;cases hq.symm.trans hl;exact .b (ZS (w:=⟨a0.Now,a0.Clients,v.1,a0.D,a0.Seen,a0.Known,a0.Notes⟩) hs λx hx=>(p6 x hx).1) λ_ _ _=> .r0
 ·have hN:=fC.1 W.now;refine .cr (λh1=> .bl λ_ _=>?_) λh1=> .bM (λr=>(r.2,r.1)) (zwB ha h1) λv hv=>?_
  ·rw[decide_eq_false (by have:=beq_iff_eq.1 h1;omega)];exact .r0
  ·rw[decide_eq_true (by have:=beq_eq_false_iff_ne.1 h1;omega)];obtain⟨q,hq,E⟩:=@zlZ a0 ha hn;cases hq.symm.trans hv;have:=ZS (w:=v.1) (ns:=[]) (HC.1 E.ok).seen E.wires;rw[List.append_nil]at this;exact .b this λ_ _ _=> .r0
 ·refine .cc (λ_=> .bd inferInstance λc hc _=> .bd inferInstance λv hv _=> .cc (λ_=> .bd inferInstance λ_ _ _=> .gl λ_=> .bl λl hl=>?_) λ_=> .nr) λ_=> .nr;rw[zu2 l hl,List.append_nil];exact zd0
 ·refine .cc (λ_=> .bd inferInstance λc hc _=> .bd inferInstance λv hv _=> .cr (λh1=>?_) λh1=>?_) λ_=> .nr
  ·simp only[h1,cond_true];exact .gl λ_=> .bl λ_ _=> .gl λ_=> .bl λ_ _=> .r0
  ·simp only[h1,cond_false];obtain⟨q,hq,p1,p2,p3,p4,p5⟩:=@zh7 c a0.Now (fT ha (List.mem_of_getElem? hc));cases hq.symm.trans hv;exact zee hs p1 p5.2
 ·refine .cc (λ_=> .r0) λ_=> .cc (λ_=> .r0) λ_=> .bl λx hx=> .pl λd6=> .gr λ_=> .bI hx (.cc (λ_=> .r0) λh1=>?_);obtain⟨f1,f2⟩:=hX x (AV hx);exact zay ha hn ⟨by have:=of_decide_eq_false h1;omega,hP x.To⟩ f1 f2
 ·refine .cc (λ_=> .r0) λ_=> .cc (λ_=> .r0) λ_=> .bl λx hx=> .pl λd6=> .gr λ_=> .bI hx ?_;exact zay ha hn ⟨by omega,by omega⟩ R8 (hX x (AV hx)).2
 ·refine .cc (λ_=> .r0) λ_=> .cc (λ_=> .r0) λ_=> .bl λx hx=> .pl λd6=> .gr λ_=> .bI hx ?_;obtain⟨f1,f2⟩:=hX x (AV hx);rw[decide_eq_false (by omega)];exact zay ha hn ⟨hj.1,by omega⟩ f1 f2
 ·refine .cc (λ_=> .r0) λ_=> .cc (λ_=> .r0) λ_=> .bl λx hx=> .pl λd6=> .gr λ_=> .bI hx ?_;obtain⟨f1,f2⟩:=hX x (AV hx);refine .cr (λh1=>?_) λh1=>?_
  ·simp only[h1,cond_true];exact .cl (λ_=> .r0) λ_=> .cl (λ_=> .nl) λ_=> .gl λ_=> .bl λ_ _=> .gl λ_=> .bl λ_ _=> .r0
  ·simp only[h1,cond_false];exact .cc (λ_=> .r0) λ_=> .gr λ_=> .cc (λ_=> .r0) λ_=> .cc (λ_=> .bd inferInstance λv _ _=> .cc (λ_=> .bd inferInstance λ_ _ _=>zay ha hn ⟨by have:=of_decide_eq_false h1;omega,hP x.To⟩ f1 (by simp only[N,List.length_set]at f2⊢;exact f2)) λ_=> .r0) λ_=> .r0
 ·refine .bd inferInstance λv hv _=> .cr (λh1=>?_) λh1=>?_
  ·simp only[h1,cond_true];exact .bl λ_ _=> .r0
  ·simp only[h1,cond_false];obtain⟨q,hq,p⟩:=@zjH a1.Ops a0.Seen a0.Known (by simp only[N]at hw⊢;omega) (by omega) (by omega);cases hq.symm.trans hv;exact zay ha hn ⟨hj.1,by omega⟩ R8 (by simp only[N];omega)
 ·refine .bd inferInstance λv hv _=> .gl λ_=> .bl λl hl=>?_;rw[zmE l hl, ←zv5 W.srv v hv];exact .cc (λ_=> .r0) λ_=> .b (ZS (w:=⟨a0.Now,a0.Clients,v.1,a0.D,a0.Seen,a0.Known,a0.Notes⟩) hs nofun) λ_ _ _=> .r0
 ·refine .cc (λh0=> .bl λc hc=> .bR hc (.cl (λh1=> .ct h1 ?_) λh1=> .cf h1 (.ct h0 (.bR hc (.bd inferInstance λv hv _=>?_))))) λ_=> .nr
  ·exact .bl λ_ _=> .gl λ_=> .bl λ_ _=> .gl λ_=> .bl λ_ _=> .r0
  ·obtain⟨q,hq,p1,_⟩:=@zjS c (fT ha (List.mem_of_getElem? hc));cases hq.symm.trans hv;exact zee hs p1 (Nat.zero_le _)
 ·refine .bd inferInstance λv hv _=> .gl λ_=> .bl λl hl=>?_;rw[zmE l hl];exact .cc (λ_=> .r0) λ_=> .b (ZS (w:=⟨a0.Now,a0.Clients,v.1,a0.D,a0.Seen,a0.Known,a0.Notes⟩) hs nofun) λ_ _ _=> .r0
 ·refine .cc (λh0=> .bl λc hc=> .bR hc ?_) λ_=> .nr;cases c.St==3
  ·exact .r0
  ·exact .ct rfl (.ct h0 (.bR hc zlV))
 ·refine .cl (λh0=> .cf (decide_eq_false (by have:=of_decide_eq_true h0;omega)) .r0) λh0=> .ct (decide_eq_true (by have:=of_decide_eq_false h0;omega)) (.gl λ_=> .bl λe hx=> .bJ hx ?_);cases e.Dead
  ·exact .gl λ_=> .bl λe hx=> .bJ hx zlV
  ·exact .r0
 ·exact .cc (λ_=> .bd inferInstance λv _ _=>zd0) λ_=> .bd inferInstance λv _ _=>zd0
end Go.D

/-
 The two machines agree.
-/
import Derived.Test.YthmhafeaiaigoaaGreatX1
set_option linter.all false
namespace Go.D
set_option maxHeartbeats 2000000
instance{a0}:MA (Bj a0) (Bg a0):=⟨by unfold Bg Bj;simp only[zg4];((try simp only[VC,zah,YB,ZS,zgI]);repeat' (first | (with_reducible first | intro _ | exact .r0 | apply nB | apply oC | apply UB | apply jB | refine .ct ‹_› ?_ | refine .cf ‹_› ?_) | (with_reducible first | apply qC | apply RG) | (refine .s ?_;grind [nA,NA,eA,TB,tC,List.length_eq_zero_iff,zlE]) | dsimp only[cond_true,cond_false]));(refine Ag.lI (λx=>∃i:Nat,x=(λi:Nat=>([UInt8.ofNat (IntKind.u8.wrap a0.Kind).toNat]++[UInt8.ofNat (IntKind.u8.wrap a0.Id).toNat]++a0.Cn++List.replicate i 0,(i:Int))) i∧i≤20) ⟨0,by first | rfl | simp,by decide⟩ (λx k hx hk=>?_) _;obtain⟨i,hx,h2⟩:=hx;have hi:(i:Int)<20→iA .i64 (i:Int) 1=((i+1:Nat):Int):=λh=>(by rw[DA (by omega) (by omega)];omega);subst hx;refine .cr (λhc=> .gr λ_=>hk _ ⟨i+1,?_,?_⟩) λhc=>?_;(· simp only[B]at hc;simp[hi hc,List.replicate_succ']);(· simp only[B]at hc;omega);have he:i=20:=(by simp only[B]at hc;omega);subst he;try dsimp only);(repeat' ((refine .s ?_;grind [nA,NA,eA,TB,tC,List.length_eq_zero_iff])))⟩
instance{a0 a1 a2}:MA (Ec a0 a1 a2) (Gb a0 a1 a2):=⟨by unfold Gb Ec;(repeat' ((with_reducible first | intro _ | exact .r0 | refine .bd inferInstance ?_)))⟩
instance{a0 a1}:MA (Ed a0 a1) (Cj a0 a1):=⟨by unfold Cj Ed;((try simp only);repeat' ((with_reducible first | intro _ | exact .r0 | refine .bd inferInstance ?_ | apply DD | apply UB | apply jB | apply BL | apply SC | (apply_assumption;done))))⟩
instance{a0}:MA (Bf a0) (Bf a0):=⟨.r0⟩
instance{a0}:MA (Fe a0) (Fz a0):=⟨by unfold Fz Fe;((try simp only[BA,List.nil_append]);repeat' ((with_reducible first | intro _ | exact .r0 | apply nB | apply UB)))⟩
instance{a0 a1 a2}:MA (Ff a0 a1 a2) (Hw a0 a1 a2):=⟨by unfold Hw Ff;((try simp only[oA,BA,OD,List.nil_append]);repeat' ((with_reducible first | intro _ | exact .r0 | apply nB | apply oC | refine .bd inferInstance ?_ | apply UB | apply jB | apply SC | (apply_assumption;done))))⟩
instance{a0 a1 a2 a3}:MA (Cb a0 a1 a2 a3) (Eo a0 a1 a2 a3):=⟨by unfold Eo Cb;((try simp only[YB,zah]);repeat' (first | (with_reducible first | intro _ | exact .r0 | apply nB | apply oC | apply UB | apply jB | apply SC | (apply_assumption;done) | apply qC | refine .ct ‹_› ?_ | refine .cf ‹_› ?_ | apply eG) | (refine .s ?_;rfl) | (refine .kk ‹_› ?_;grind [nA,NA,eA])))⟩
instance{a0 a1 a2}:MA (Gq a0 a1 a2) (Hx a0 a1 a2):=⟨by unfold Hx Gq;((try simp only[zgR,YB]);repeat' ((with_reducible first | intro _ | exact .r0 | apply nB | apply oC | apply UB | apply jB | apply SC | (apply_assumption;done))))⟩
instance{a0 a1 a2}:MA (Fd a0 a1 a2) (Hy a0 a1 a2):=⟨by unfold Hy Fd;((try simp only[BA,List.nil_append]);repeat' ((with_reducible first | intro _ | exact .r0 | apply nB | refine .bd inferInstance ?_ | apply DD | apply UB | apply jB | apply BL | apply SC | (apply_assumption;done))))⟩
instance{a0 a1 a2}:MA (Ea a0 a1 a2) (Eq a0 a1 a2):=⟨by unfold Eq Ea;((try simp only);repeat' (first | (with_reducible first | intro _ | apply gF | apply kF | exact .r0 | refine .bd inferInstance ?_ | apply DD | apply UB | apply jB | apply BL | apply SC | (apply_assumption;done)) | (with_reducible refine Ag.cr (λ_=>?_) (λ_=>?_)<;>try (exfalso;grind (splits:=3) [nA,NA,eA,zhg, →zfV];done)) | (with_reducible first | apply tD | apply qC | refine .bR ‹_› ?_ | apply FE) | (refine .kk ‹_› ?_;grind [nA,NA,eA,zhg, →zfV]) | (exfalso;grind [nA,NA,eA,zhg, →zfV])))⟩
instance{a0 a1}:MA (Bt a0 a1) (Ch a0 a1):=⟨by unfold Ch Bt;((try simp only[zah,VC]);repeat' (first | (with_reducible first | intro _ | exact .r0 | apply nB | refine .bd inferInstance ?_ | apply UB | apply jB | apply SC | (apply_assumption;done) | apply qC | apply eG) | (refine .kk ‹_› ?_;grind [nA,NA,eA])))⟩
instance{a0 a1}:MA (Cp a0 a1) (Bz a0 a1):=⟨by unfold Bz Cp;((try simp only[BA,List.nil_append]);repeat' (first | (with_reducible first | intro _ | exact .r0 | apply nB | apply DD | apply UB | apply qC | apply eG) | (refine .s ?_;grind [nA,NA,eA,TB,tC,List.length_eq_zero_iff])))⟩
instance{a0 a1 a2 a3 a4 a5 a6}:MA (Eb a0 a1 a2 a3 a4 a5 a6) (Dq a0 a1 a2 a3 a4 a5 a6):=⟨by unfold Dq Eb;rw[show List.replicate (16:Int).toNat (UInt8.ofNat (0:Int).toNat)=List.replicate 16 0 from rfl];((try simp only[BA,VC,List.nil_append]);repeat' (first | (with_reducible first | intro _ | apply gF | apply kF | exact .r0 | apply nB | refine .bd inferInstance ?_ | apply UB | refine .ct ‹_› ?_ | refine .cf ‹_› ?_) | (with_reducible refine Ag.cr (λ_=>?_) (λ_=>?_)<;>try (exfalso;grind (splits:=3) [nA,NA,eA, →zfL,wB,dG];done)) | (with_reducible first | apply tD | apply qC | apply RG | apply FE) | (exfalso;grind [nA,NA,eA, →zfL,wB,dG]) | dsimp only[cond_true,cond_false]));all_goals ((refine Ag.lI (λx=>∃i:Nat,x=(λi:Nat=>((i:Int),(⟨a5,0,[],a2,0,[],[],a3,a4,_,List.replicate i 0⟩:Ab))) i∧i≤16) ⟨0,by first | rfl | simp,by decide⟩ (λx k hx hk=>?_) _;obtain⟨i,hx,h2⟩:=hx;have hi:(i:Int)<16→iA .i64 (i:Int) 1=((i+1:Nat):Int):=λh=>(by rw[DA (by omega) (by omega)];omega);subst hx;refine .cr (λhc=> .gr λ_=>hk _ ⟨i+1,?_,?_⟩) λhc=>?_;(· simp only[B]at hc;simp[hi hc,List.replicate_succ']);(· simp only[B]at hc;omega);have he:i=16:=(by simp only[B]at hc;omega);subst he;try dsimp only);(repeat' (first | (with_reducible first | intro _ | exact .r0) | with_reducible refine .bT inferInstance ‹_› ?_)))⟩
instance{a0 a1 a2 a3 a4}:MA (Gr a0 a1 a2 a3 a4) (Er a0 a1 a2 a3 a4):=⟨by unfold Er Gr;((try simp only[oA]);repeat' (first | (with_reducible first | intro _ | apply gF | apply kF | exact .r0 | apply nB | apply oC | apply jB | refine .ct ‹_› ?_ | refine .cf ‹_› ?_) | (with_reducible refine Ag.cr (λ_=>?_) (λ_=>?_)<;>try (exfalso;grind (splits:=3) [nA,NA,eA, →zmg, →zfL,wB,dG,aD];done)) | (with_reducible first | apply tD | apply qC | refine .bT inferInstance ‹_› ?_ | apply FE)))⟩
instance{a0 a1 a2}:MA (Cd a0 a1 a2) (Bq a0 a1 a2):=⟨by unfold Bq Cd;cases a0;((try simp only[oA,uC]);repeat' (first | (with_reducible first | intro _ | exact .r0 | apply nB | apply oC | refine .bd inferInstance ?_ | apply jB) | with_reducible apply eG | with_reducible apply RG | (refine .s ?_;grind [nA,NA,eA,TB,tC,List.length_eq_zero_iff, →zkQ])))⟩
instance{a0 a1}:MA (Ee a0 a1) (Es a0 a1):=⟨by unfold Es Ee;((try simp only[BA,List.nil_append]);repeat' ((with_reducible first | intro _ | exact .r0 | apply nB | apply UB)))⟩
instance{a0 a1}:MA (Bn a0 a1) (Br a0 a1):=⟨by unfold Br Bn;(repeat' ((with_reducible first | intro _ | exact .r0 | refine .bd inferInstance ?_)))⟩
instance{a0 a1 a2}:MA (Gs a0 a1 a2) (Hz a0 a1 a2):=⟨by unfold Hz Gs;((try simp only[oA,BA,OD,List.nil_append]);repeat' ((with_reducible first | intro _ | exact .r0 | apply nB | apply oC | refine .bd inferInstance ?_ | apply UB | apply jB | apply SC | (apply_assumption;done))))⟩
instance{a0}:MA (Cu a0) (Cu a0):=⟨.r0⟩
instance{a0}:MA (Bk a0) (Bk a0):=⟨.r0⟩
instance{a0}:MA (Fh a0) (Ga a0):=⟨by unfold Ga Fh;((try simp only[oA,uC]);repeat' ((with_reducible first | intro _ | exact .r0 | apply nB | apply oC | refine .bd inferInstance ?_ | apply jB | apply SC | (apply_assumption;done))))⟩
instance{a0 a1}:MA (Ha a0 a1) (Ia a0 a1):=⟨by unfold Ia Ha;((try simp only[oA,OD]);repeat' ((with_reducible first | intro _ | exact .r0 | apply nB | apply oC | refine .bd inferInstance ?_ | apply jB | apply SC | (apply_assumption;done))))⟩
instance{a0 a1}:MA (Ct a0 a1) (Ct a0 a1):=⟨.r0⟩
instance{a0}:MA (Hq a0) (Ib a0):=⟨by unfold Ib Hq Dr Ci Dm;((try simp only[OD,oA,BA,ba,bs,SI,List.nil_append]);repeat' (first | (with_reducible first | intro _ | exact .r0 | apply nB | apply oC | apply UB | apply jB) | with_reducible apply eG | with_reducible apply qC | (refine .s ?_;grind [nA,NA,eA,TB,tC,List.length_eq_zero_iff,zid])))⟩
instance{a0}:MA (Da a0) (Da a0):=⟨.r0⟩
instance{a0 a1 a2}:MA (Fj a0 a1 a2) (Ie a0 a1 a2):=⟨by unfold Ie Fj;generalize (oB a0 a1).toNat=n;((try simp only[oA,List.nil_append]);repeat' (first | (with_reducible first | intro _ | apply gF | apply kF | exact .r0 | apply nB | refine .bd inferInstance ?_ | apply DD | apply UB | apply jB) | (with_reducible refine Ag.cr (λ_=>?_) (λ_=>?_)<;>try (exfalso;grind (splits:=3) [nA,NA,eA,pD,KI,List.set_set];done)) | (with_reducible first | apply zhn | apply tD | apply qC | apply RG | refine .bR ‹_› ?_ | apply FE) | (refine .s ?_;grind [nA,NA,eA,TB,tC,List.length_eq_zero_iff,pD,KI,List.set_set])))⟩
instance{a0}:MA (Ef a0) (Dc a0):=⟨by exact zr6⟩
instance{a0 a1}:MA (Dn a0 a1) (Dd a0 a1):=⟨by unfold Dd Dn;((try simp only);repeat' ((with_reducible first | intro _ | exact .r0 | apply jB | apply BL | apply SC | (apply_assumption;done) | apply tD | apply qC | refine .bR ‹_› ?_ | refine .ct ‹_› ?_ | refine .cf ‹_› ?_)))⟩
instance{a0}:MA (Em a0) (Dv a0):=⟨by unfold Dv Em;(repeat' ((with_reducible first | intro _ | exact .r0 | refine .bd inferInstance ?_)))⟩
instance{a0 a1}:MA (Bw a0 a1) (Bw a0 a1):=⟨.r0⟩
instance{a0 a1 a2}:MA (Dp a0 a1 a2) (Dw a0 a1 a2):=⟨by unfold Dw Dp;((try simp only[oA,List.nil_append]);repeat' ((with_reducible first | intro _ | exact .r0 | apply nB | apply UB | apply jB | apply SC | (apply_assumption;done) | apply tD | apply qC | refine .bT inferInstance ‹_› ?_ | refine .ct ‹_› ?_ | refine .cf ‹_› ?_ | apply eG)))⟩
instance{a0 a1}:MA (Hb a0 a1) (If a0 a1):=⟨by unfold If Hb;((try simp only[BA,YB,List.nil_append]);repeat' ((with_reducible first | intro _ | exact .r0 | apply nB | apply UB | apply jB)))⟩
instance{a0 a1 a2 a3 a4}:MA (Eg a0 a1 a2 a3 a4) (Et a0 a1 a2 a3 a4):=⟨by unfold Et Eg;((try simp only[YB,ZS]);repeat' (first | (with_reducible first | intro _ | exact .r0 | apply nB | apply oC | refine .bd inferInstance ?_ | apply UB | apply jB | apply SC | (apply_assumption;done) | apply qC | apply eG) | (refine .s ?_;rfl) | (refine .kk ‹_› ?_;grind [nA,NA,eA])))⟩
instance{a0 a1 a2 a3 a4 a5}:MA (Fl a0 a1 a2 a3 a4 a5) (Ge a0 a1 a2 a3 a4 a5):=⟨by unfold Ge Fl;(repeat' ((with_reducible first | intro _ | exact .r0 | refine .bd inferInstance ?_ | apply jB | apply SC | (apply_assumption;done))))⟩
instance{a0 a1 a2}:MA (Fk a0 a1 a2) (Gd a0 a1 a2):=⟨by unfold Gd Fk;(repeat' ((with_reducible first | intro _ | exact .r0 | refine .bd inferInstance ?_ | apply jB | apply SC | (apply_assumption;done))))⟩
instance{a0}:MA (Fq a0) (Gh a0):=⟨by unfold Gh Fq;((try simp only[oA,uC]);repeat' ((with_reducible first | intro _ | exact .r0 | apply nB | apply oC | refine .bd inferInstance ?_ | apply jB | apply SC | (apply_assumption;done))))⟩
instance{a0}:MA (Hg a0) (Ev a0):=⟨by unfold Ev Hg;((try simp only[oA,LD]);repeat' ((with_reducible first | intro _ | exact .r0 | apply nB | apply oC | refine .bd inferInstance ?_ | apply jB | apply SC | (apply_assumption;done))))⟩
instance{a0}:MA (Cf a0) (Cf a0):=⟨.r0⟩
instance{a0 a1}:MA (Bx a0 a1) (Bx a0 a1):=⟨.r0⟩
instance{a0 a1 a2}:MA (He a0 a1 a2) (Ii a0 a1 a2):=⟨by unfold Ii He;((try simp only[zgR,List.nil_append]);repeat' (first | (with_reducible first | intro _ | exact .r0 | apply nB | refine .bd inferInstance ?_ | apply UB | apply jB | apply SC | (apply_assumption;done) | apply qC | apply eG) | (refine .kk ‹_› ?_;grind [nA,NA,eA])))⟩
instance{a0}:MA (Cw a0) (Cw a0):=⟨.r0⟩
instance{a0 a1}:MA (Hf a0 a1) (Ij a0 a1):=⟨by unfold Ij Hf;((try simp only[BA,uE,List.nil_append]);repeat' ((with_reducible first | intro _ | exact .r0 | apply nB | apply UB | apply jB)))⟩
instance{a0 a1 a2 a3}:MA (Fn a0 a1 a2 a3) (Gf a0 a1 a2 a3):=⟨by unfold Gf Fn;(repeat' (first | (with_reducible first | intro _ | exact .r0 | refine .bd inferInstance ?_ | apply jB) | (refine .s ?_;grind [nA,NA,eA,TB,tC,List.length_eq_zero_iff])))⟩
instance:MA (Fo) (Kz):=⟨by unfold Kz Fo;(repeat' (first | with_reducible apply RG | dsimp only[cond_true,cond_false]));(refine Ag.lI (λx=>∃i:Nat,x=(λi:Nat=>((i:Int),(⟨-1,List.replicate i 0⟩:Aq))) i∧i≤32) ⟨0,by first | rfl | simp,by decide⟩ (λx k hx hk=>?_) _;obtain⟨i,hx,h2⟩:=hx;have hi:(i:Int)<32→iA .i64 (i:Int) 1=((i+1:Nat):Int):=λh=>(by rw[DA (by omega) (by omega)];omega);subst hx;refine .cr (λhc=> .gr λ_=>hk _ ⟨i+1,?_,?_⟩) λhc=>?_;(· simp only[B]at hc;simp[hi hc,List.replicate_succ']);(· simp only[B]at hc;omega);have he:i=32:=(by simp only[B]at hc;omega);subst he;try dsimp only);(repeat' ((refine .s ?_;grind [nA,NA,eA,TB,tC,List.length_eq_zero_iff])))⟩
instance{a0 a1}:MA (By a0 a1) (Df a0 a1):=⟨by unfold Df By;((try simp only[BA,List.nil_append]);repeat' ((with_reducible first | intro _ | exact .r0 | apply nB | refine .bd inferInstance ?_ | apply UB | apply jB | apply SC | (apply_assumption;done))))⟩
instance{a0 a1 a2}:MA (Ei a0 a1 a2) (Gg a0 a1 a2):=⟨by unfold Gg Ei;((try simp only[BA,List.nil_append]);repeat' (first | (with_reducible first | intro _ | exact .r0 | apply nB | refine .bd inferInstance ?_ | apply UB | apply jB | apply SC | (apply_assumption;done) | apply qC | apply eG) | (refine .kk ‹_› ?_;grind [nA,NA,eA])))⟩
instance{a0 a1 a2 a3}:MA (Fp a0 a1 a2 a3) (Eu a0 a1 a2 a3):=⟨by unfold Eu Fp;((try simp only[BA,VC,List.nil_append]);repeat' (first | (with_reducible first | intro _ | exact .r0 | apply nB | refine .bd inferInstance ?_ | apply UB | apply jB | apply SC | (apply_assumption;done) | apply tD | apply qC | refine .bT inferInstance ‹_› ?_ | apply eG) | (refine .kk ‹_› ?_;grind [nA,NA,eA])))⟩
instance{a0 a1}:MA (Bi a0 a1) (Bi a0 a1):=⟨.r0⟩
instance{a0 a1 a2}:MA (Do a0 a1 a2) (Dt a0 a1 a2):=⟨by unfold Dt Do;((try simp only[BA,List.nil_append]);repeat' ((with_reducible first | intro _ | exact .r0 | apply nB | apply UB)))⟩
instance{a0}:MA (Bh a0) (Bh a0):=⟨.r0⟩
instance{a0 a1 a2 a3 a4}:MA (Eh a0 a1 a2 a3 a4) (De a0 a1 a2 a3 a4):=⟨by unfold De Eh;((try simp only[YB,ZS]);repeat' (first | (with_reducible first | intro _ | exact .r0 | apply nB | apply oC | apply UB | apply jB | apply SC | (apply_assumption;done) | apply qC | refine .ct ‹_› ?_ | refine .cf ‹_› ?_ | apply eG) | (refine .s ?_;rfl) | (refine .kk ‹_› ?_;grind [nA,NA,eA])))⟩
instance{a0 a1}:MA (Cv a0 a1) (Cv a0 a1):=⟨.r0⟩
instance{a0 a1}:MA (Bo a0 a1) (Bo a0 a1):=⟨.r0⟩
instance{a0 a1}:MA (Bm a0 a1) (Bm a0 a1):=⟨.r0⟩
instance{a0 a1 a2 a3}:MA (Hc a0 a1 a2 a3) (Ig a0 a1 a2 a3):=⟨by unfold Ig Hc;((try simp only[VC]);repeat' (first | (with_reducible first | intro _ | exact .r0 | apply nB | refine .bd inferInstance ?_ | apply jB | apply SC | (apply_assumption;done) | apply qC | apply eG) | (refine .kk ‹_› ?_;grind [nA,NA,eA])))⟩
instance{a0 a1 a2 a3 a4 a5}:MA (Fm a0 a1 a2 a3 a4 a5) (Ds a0 a1 a2 a3 a4 a5):=⟨by unfold Ds Fm;(repeat' ((with_reducible first | intro _ | exact .r0 | refine .bd inferInstance ?_ | apply jB | apply SC | (apply_assumption;done))))⟩
instance{a0 a1}:MA (Hd a0 a1) (Ih a0 a1):=⟨by unfold Ih Hd;((try simp only[VC]);repeat' ((with_reducible first | intro _ | exact .r0 | apply nB | apply jB | apply SC | (apply_assumption;done) | apply tD | apply qC | refine .bT inferInstance ‹_› ?_ | refine .ct ‹_› ?_ | refine .cf ‹_› ?_ | apply eG)))⟩
instance{a0 a1}:MA (Bp a0 a1) (Cl a0 a1):=⟨by unfold Cl Bp Hh;have h1:=@LA a0.Top 1024;have h2:=@DA (sA .i64 a0.Top 1024) 1;((try simp only[YF,bc,bs]);repeat' (first | (with_reducible first | intro _ | apply gF | apply kF | exact .r0 | apply nB | apply oC | apply jB) | (with_reducible refine Ag.cr (λ_=>?_) (λ_=>?_)<;>try (exfalso;grind (splits:=3) [nA,NA,eA,iD];done)) | with_reducible apply qC | (refine .s ?_;grind [nA,NA,eA,TB,tC,List.length_eq_zero_iff,iD])))⟩
instance{a0 a1}:MA (Cg a0 a1) (Dg a0 a1):=⟨by exact ztE⟩
instance{a0 a1 a2}:MA (Hi a0 a1 a2) (Ik a0 a1 a2):=⟨by unfold Ik Hi;(repeat' ((with_reducible first | intro _ | exact .r0 | refine .bd inferInstance ?_ | apply jB | apply SC | (apply_assumption;done))))⟩
instance{a0 a1 a2}:MA (Cy a0 a1 a2) (Ew a0 a1 a2):=⟨by unfold Ew Cy;((try simp only[oA]);repeat' (first | (with_reducible first | intro _ | apply gF | apply kF | exact .r0 | apply nB | apply oC | refine .bd inferInstance ?_ | apply jB | refine .ct ‹_› ?_ | refine .cf ‹_› ?_) | (with_reducible refine Ag.cr (λ_=>?_) (λ_=>?_)<;>try (exfalso;grind (splits:=3) [nA,NA,eA, →zsO];done)) | (with_reducible first | apply tD | apply qC | refine .bT inferInstance ‹_› ?_ | apply FE)))⟩
instance{a0 a1 a2}:MA (Ej a0 a1 a2) (Dh a0 a1 a2):=⟨by exact zsC (λ_ _ _=>MA.h) (λ_ _=>MA.h)⟩
instance{a0 a1}:MA (Fr a0 a1) (Gi a0 a1):=⟨by unfold Gi Fr;((try simp only[uC,BA,List.nil_append]);repeat' ((with_reducible first | intro _ | exact .r0 | apply nB | apply oC | apply UB | apply jB | apply SC | (apply_assumption;done))))⟩
instance{a0 a1 a2 a3}:MA (Ek a0 a1 a2 a3) (Gk a0 a1 a2 a3):=⟨by exact zuJ⟩
instance{a0 a1 a2 a3}:MA (Fs a0 a1 a2 a3) (Gj a0 a1 a2 a3):=⟨by exact ztr⟩
instance{a0}:MA (Hj a0) (Il a0):=⟨by unfold Il Hj;((try simp only[oA,uE,uC]);repeat' ((with_reducible first | intro _ | exact .r0 | apply nB | apply oC | refine .bd inferInstance ?_ | apply jB | apply SC | (apply_assumption;done))))⟩
instance{a0 a1 a2}:MA (Hk a0 a1 a2) (Im a0 a1 a2):=⟨by unfold Im Hk;have h1:=@LA a0.Cur.N 1;((try simp only[oA,uC,EB]);repeat' (first | (with_reducible first | intro _ | apply gF | apply kF | exact .r0 | apply nB | apply oC | refine .bd inferInstance ?_ | apply jB) | (with_reducible refine Ag.cr (λ_=>?_) (λ_=>?_)<;>try (exfalso;grind (splits:=3) [nA,NA,eA,XC];done)) | (with_reducible first | apply tD | apply qC | apply FE) | (refine .s ?_;grind [nA,NA,eA,TB,tC,List.length_eq_zero_iff,XC])))⟩
instance{a0 a1 a2 a3 a4}:MA (Hl a0 a1 a2 a3 a4) (Gm a0 a1 a2 a3 a4):=⟨by unfold Gm Hl Lb;((try simp only[oA,BA,List.nil_append,ba,bc,bs,LD]);repeat' (first | (with_reducible first | intro _ | exact .r0 | apply nB | apply oC | refine .bd inferInstance ?_ | apply DD | apply UB | apply jB | apply SC | (apply_assumption;done) | apply zhn | (apply TM;simp only[ba,bc,bs,bn]) | apply tD | apply qC | apply RG | refine .bT inferInstance ‹_› ?_ | refine .ct ‹_› ?_ | refine .cf ‹_› ?_ | apply FE | apply eG) | (refine .s ?_;grind [nA,NA,eA,TB,tC,List.length_eq_zero_iff])))⟩
instance{a0 a1 a2 a3}:MA (Hn a0 a1 a2 a3) (In a0 a1 a2 a3):=⟨by
 unfold In Hn
 (try simp only[oA,JC,iE,ZD,List.nil_append,KD,EB,BA,ba])
 refine .pl λ_=> .pr λ_=> .jBl (.jBr (.pl λ_=> .pr λ_=> .cc (λ_=> .r0) λhs=> .cc (λ_=> .r0) λhn=> .cc (λ_=> .r0) λha=> .bd inferInstance λcr hcr _=> .bd inferInstance λfr JW _=>?_));refine Ag.hj (λk k'=>(∀y z,y.1=z.1→y.2.1=z.2.1→y.2.2=z.2.2.1→Ag (k y) (k' z))∧(∀y,y.1=[]→Ag (k y) (some (y.2.2,[],y.2.1)))) ⟨?_,?_⟩ λk k' hk=>?_
 ·rintro⟨o,n,s⟩ ⟨o',n',s',d⟩ e1 e2 e3;cases e1;cases e2;cases e3;exact zxd (λ_ _=>MA.h) (λ_=>MA.h) (λ_ _ _=>MA.h)
 ·rintro⟨o,n,s⟩ e1;exact .jl (zvE e1 .r0)
 obtain⟨SZ,JZ⟩:=hk;refine .ce (by rfl) (λ_=>JZ _ rfl) λhf=>?_;have S:=rF.1 (by simpa using hs)
 have hD:a0.D.N≤10000:=by
  have:=S.dice;simp only[gC,Bool.and_eq_true,fC]at this;omega
 have hT:=S.tab;have hfo:=zsG JW (by simpa using hf);have W6:(RC a0.D).2.length≤100:=by have:=sL a0.D;omega
 generalize fr.1=f at *;cases h1:(f.Kind==1)
 ·cases h3:(f.Kind==3)
  ·cases h4:jC f.Kind
   ·simp only[aA,cond_true,cond_false];exact SZ _ _ rfl rfl rfl
   ·simp only[aA,cond_true,cond_false];unfold Lc
    (try simp only[oA,JC,iE,ZD,List.nil_append,KD,EB,BA,ba])
    simp only[ba,bc,bs,bn,aA];refine .pl λ_=> .pr λ_=> .cc (λ_=>JZ _ rfl) λhn=> .bd inferInstance λe he _=> .cc (λ_=>JZ _ rfl) λhd=> .pl λ_=> .pr λ_=> .bd inferInstance λm _ _=> .cc (λ_=>?_) λ_=>?_
    ·have hz:([]:List UInt8).length≤100:=by decide
     ((try simp only[oA,JC,iE,ZD,List.nil_append,KD,EB,BA,ba]);repeat' (first | (with_reducible first | intro _ | apply nB | apply oC | refine .bd inferInstance ?_ | apply DD | apply UB | apply jB | refine .ct ‹_› ?_ | refine .cf ‹_› ?_) | (with_reducible refine Ag.cr (λ_=>?_) (λ_=>?_)<;>try (exfalso;grind (splits:=3) [nA,NA,eA, →XS];done)) | (with_reducible first | (apply TM;simp only[ba,bc,bs,bn]) | apply tD | apply qC | refine .bT inferInstance ‹_› ?_ | refine .bR ‹_› ?_ | refine .bI ‹_› ?_ | apply FE) | (exfalso;grind [nA,NA,eA, →XS])))
     all_goals first | exact JZ _ rfl | (refine SZ _ _ ?_ ?_ ?_<;>first | rfl | grind [→XS])
    ·((try simp only[oA,JC,iE,ZD,List.nil_append,KD,EB,BA,ba]);repeat' (first | (with_reducible first | intro _ | apply nB | apply oC | refine .bd inferInstance ?_ | apply DD | apply UB | apply jB | refine .ct ‹_› ?_ | refine .cf ‹_› ?_) | (with_reducible refine Ag.cr (λ_=>?_) (λ_=>?_)<;>try (exfalso;grind (splits:=3) [nA,NA,eA, →XS];done)) | (with_reducible first | (apply TM;simp only[ba,bc,bs,bn]) | apply tD | apply qC | refine .bT inferInstance ‹_› ?_ | refine .bR ‹_› ?_ | refine .bI ‹_› ?_ | apply FE) | (exfalso;grind [nA,NA,eA, →XS])))
     all_goals first | exact JZ _ rfl | (refine SZ _ _ ?_ ?_ ?_<;>first | rfl | grind [→XS])
  ·simp only[aA,cond_true,cond_false];unfold La
   (try simp only[oA,JC,iE,ZD,List.nil_append,KD,EB,BA,ba])
   refine .jbl ?_;simp only[ba,bc,bs,bn,aA];refine .bd inferInstance λj _ _=> .cc (λ_=>JZ _ rfl) λhj=> .cc (λ_=>JZ _ rfl) λhid=> .bd inferInstance λp hp _=> .bd inferInstance λok _ _=> .cc (λ_=>JZ _ rfl) λ_=> .pl λ_=> .pr λ_=> .cc (λhn=>?_) λhn=>?_
   ·refine .bd inferInstance λp2 _ _=> .bd inferInstance λs FX _=> .bd inferInstance λt ht _=> .cc (λ_=>JZ _ rfl) λh0=>?_;have h0:t.2=0:=by simpa using h0
    have e1:=zta ht h0;rw[zth FX (zfS ht h0).2.2.2]at e1;have e2:=ztc ht h0;simp only[e1]
    ((try simp only[oA,JC,iE,ZD,List.nil_append,KD,EB,BA,ba]);repeat' (first | (with_reducible first | intro _ | apply nB | apply oC | refine .bd inferInstance ?_ | apply DD | apply UB | apply jB | refine .ct ‹_› ?_ | refine .cf ‹_› ?_) | (with_reducible refine Ag.cr (λ_=>?_) (λ_=>?_)<;>try (exfalso;grind (splits:=3) [nA,NA,eA, →dT];done)) | (with_reducible first | (apply TM;simp only[ba,bc,bs,bn]) | apply tD | apply qC | refine .bT inferInstance ‹_› ?_ | refine .bR ‹_› ?_ | refine .bI ‹_› ?_ | apply FE) | (exfalso;grind [nA,NA,eA, →dT])))
    all_goals first | exact JZ _ rfl | (refine SZ _ _ ?_ ?_ ?_<;>first | rfl | grind [→dT])
   ·((try simp only[oA,JC,iE,ZD,List.nil_append,KD,EB,BA,ba]);repeat' (first | (with_reducible first | intro _ | apply nB | apply oC | refine .bd inferInstance ?_ | apply DD | apply UB | apply jB | refine .ct ‹_› ?_ | refine .cf ‹_› ?_) | (with_reducible refine Ag.cr (λ_=>?_) (λ_=>?_)<;>try (exfalso;grind (splits:=3) [nA,NA,eA, →dT];done)) | (with_reducible first | (apply TM;simp only[ba,bc,bs,bn]) | apply tD | apply qC | refine .bT inferInstance ‹_› ?_ | refine .bR ‹_› ?_ | refine .bI ‹_› ?_ | apply FE) | (exfalso;grind [nA,NA,eA, →dT])))
    all_goals first | exact JZ _ rfl | (refine SZ _ _ ?_ ?_ ?_<;>first | rfl | grind [→dT])
 ·simp only[aA,cond_true,cond_false];unfold Ky
  ((try simp only[oA,JC,iE,ZD,List.nil_append,KD,EB,BA,ba]);repeat' (first | (with_reducible first | intro _ | apply nB | apply oC | refine .bd inferInstance ?_ | apply DD | apply UB | apply jB | refine .ct ‹_› ?_ | refine .cf ‹_› ?_) | (with_reducible refine Ag.cr (λ_=>?_) (λ_=>?_)<;>try (exfalso;grind (splits:=3) [nA,NA,eA];done)) | (with_reducible first | (apply TM;simp only[ba,bc,bs,bn]) | apply tD | apply qC | refine .bT inferInstance ‹_› ?_ | refine .bR ‹_› ?_ | refine .bI ‹_› ?_ | apply FE) | (exfalso;grind [nA,NA,eA])))
  all_goals first
   | exact JZ _ rfl
   | exact SZ _ _ rfl rfl rfl
   | skip⟩
instance{a0}:MA (Fg a0) (Dx a0):=⟨by unfold Dx Fg;((try simp only);repeat' ((with_reducible first | intro _ | exact .r0 | refine .bd inferInstance ?_ | apply DD | apply UB | apply jB | apply BL | apply SC | (apply_assumption;done) | apply tD | refine .bT inferInstance ‹_› ?_ | refine .bR ‹_› ?_)))⟩
instance{a0 a1 a2}:MA (Ft a0 a1 a2) (Ey a0 a1 a2):=⟨by unfold Ey Ft;((try simp only[BA,VC,oA]);repeat' (first | (with_reducible first | intro _ | apply gF | apply kF | exact .r0 | apply nB | apply oC | refine .bd inferInstance ?_ | apply jB) | (with_reducible refine Ag.cr (λ_=>?_) (λ_=>?_)<;>try (exfalso;grind (splits:=3) [nA,NA,eA,zar];done)) | (with_reducible first | apply tD | apply qC | apply FE) | (refine .s ?_;grind [nA,NA,eA,TB,tC,List.length_eq_zero_iff,zar])))⟩
instance{a0 a1 a2}:MA (En a0 a1 a2) (Io a0 a1 a2):=⟨by unfold Io En Ld Le;have hc:=λh=>(@zxB a0 h);((try simp only[oA,BA,ba,bc,bs,EB,OD,VC,List.nil_append]);repeat' (first | (with_reducible first | intro _ | apply gF | apply kF | exact .r0 | apply nB | apply oC | refine .bd inferInstance ?_ | apply DD | apply UB | apply jB | refine .ct ‹_› ?_ | refine .cf ‹_› ?_) | (with_reducible refine Ag.cr (λ_=>?_) (λ_=>?_)<;>try (exfalso;grind (splits:=3) [nA,NA,eA, →zfH, →zjT, →zjX];done)) | (with_reducible first | (apply TM;simp only[ba,bc,bs,bn]) | apply tD | apply qC | apply RG | refine .bT inferInstance ‹_› ?_ | apply FE) | (refine .s ?_;grind [nA,NA,eA,TB,tC,List.length_eq_zero_iff, →zfH, →zjT, →zjX])))⟩
instance{a0 a1}:MA (Gt a0 a1) (Di a0 a1):=⟨by unfold Di Gt;((try simp only[oA,BA,LD,List.nil_append]);repeat' (first | (with_reducible first | intro _ | apply gF | apply kF | exact .r0 | apply nB | apply oC | refine .bd inferInstance ?_ | apply UB | apply jB) | (refine .s ?_;grind [nA,NA,eA,TB,tC,List.length_eq_zero_iff, →zfH,mF,WM])))⟩
instance{a0 a1 a2 a3}:MA (Gu a0 a1 a2 a3) (Ip a0 a1 a2 a3):=⟨by unfold Ip Gu;have h1:=λh=>@zmL a0 h;((try simp only[oA,JC]);repeat' (first | (with_reducible first | intro _ | apply gF | apply kF | exact .r0 | apply nB | apply oC | refine .bd inferInstance ?_ | apply UB | apply jB) | (with_reducible refine Ag.cr (λ_=>?_) (λ_=>?_)<;>try (exfalso;grind (splits:=3) [nA,NA,eA, →zmo, →zfy];done)) | (with_reducible first | apply tD | apply qC | apply RG | refine .bI ‹_› ?_ | apply FE) | (refine .s ?_;grind [nA,NA,eA,TB,tC,List.length_eq_zero_iff, →zmo, →zfy])))⟩
instance{a0}:MA (Hp a0) (Ez a0):=⟨by unfold Ez Hp;((try simp only[oA,iE,ZD,BA,JC,List.nil_append]);repeat' ((with_reducible first | intro _ | exact .r0 | apply nB | apply oC | apply UB | apply jB | apply SC | (apply_assumption;done))))⟩
instance{a0}:MA (Ce a0) (Fa a0):=⟨by unfold Fa Ce;((try simp only[LD,oA,BA,List.nil_append]);repeat' ((with_reducible first | intro _ | exact .r0 | apply nB | apply oC | apply UB | apply jB)))⟩
instance{a0 a1}:MA (Hr a0 a1) (Iq a0 a1):=⟨by unfold Iq Hr Ci Fi;have h1:=λh=>@zmL a0 h;((try simp only[oA,JC,BA,ba,bs,List.nil_append,bc,bn]);repeat' (first | (with_reducible first | intro _ | apply gF | apply kF | exact .r0 | apply nB | apply oC | refine .bd inferInstance ?_ | apply UB | apply jB) | (with_reducible refine Ag.cr (λ_=>?_) (λ_=>?_)<;>try (exfalso;grind (splits:=3) [nA,NA,eA, →zl7];done)) | (with_reducible first | apply tD | apply qC | refine .bR ‹_› ?_ | refine .bI ‹_› ?_ | apply FE) | (refine .s ?_;grind [nA,NA,eA,TB,tC,List.length_eq_zero_iff, →zl7])))⟩
instance{a0}:MA (Hs a0) (Gn a0):=⟨by unfold Gn Hs;((try simp only[uC,BA,List.nil_append]);repeat' ((with_reducible first | intro _ | exact .r0 | apply nB | apply oC | apply DD | apply UB | apply jB | apply SC | (apply_assumption;done))))⟩
instance{a0 a1}:MA (Bu a0 a1) (Bu a0 a1):=⟨.r0⟩
instance{a0 a1}:MA (Bv a0 a1) (Dj a0 a1):=⟨by unfold Dj Bv Du;((try simp only[oA,ba,bx,EH]);repeat' ((with_reducible first | intro _ | exact .r0 | apply nB | apply oC | refine .bd inferInstance ?_ | apply DD | apply UB | apply jB | apply BL | apply SC | (apply_assumption;done) | refine .bR ‹_› ?_)))⟩
instance{a0 a1}:MA (Gw a0 a1) (Is a0 a1):=⟨by unfold Is Gw;((try simp only[oA,LD]);repeat' ((with_reducible first | intro _ | exact .r0 | apply nB | apply oC | refine .bd inferInstance ?_ | apply jB | apply SC | (apply_assumption;done))))⟩
instance{a0 a1}:MA (Gx a0 a1) (Iu a0 a1):=⟨by unfold Iu Gx;((try simp only[oA,sG]);repeat' ((with_reducible first | intro _ | exact .r0 | apply nB | apply oC | refine .bd inferInstance ?_ | apply DD | apply UB | apply jB | apply BL | apply SC | (apply_assumption;done))))⟩
instance{a0 a1}:MA (Gy a0 a1) (Iv a0 a1):=⟨by unfold Iv Gy Ci Fi;((try simp only[oA,KD,BA,ba,bs,JC,List.nil_append,bc,bn]);repeat' ((with_reducible first | intro _ | exact .r0 | apply nB | apply oC | refine .bd inferInstance ?_ | apply DD | apply UB | apply jB | apply BL | apply SC | (apply_assumption;done) | apply tD | apply qC | refine .bR ‹_› ?_ | refine .ct ‹_› ?_ | refine .cf ‹_› ?_)))⟩
instance{a0 a1}:MA (Cq a0 a1) (Cq a0 a1):=⟨.r0⟩
instance{a0 a1}:MA (Cs a0 a1) (Dy a0 a1):=⟨by unfold Dy Cs;((try simp only);repeat' (first | (with_reducible first | intro _ | exact .r0 | refine .bd inferInstance ?_ | apply jB | apply RG | apply eG) | (refine .s ?_;grind [nA,NA,eA,TB,tC,List.length_eq_zero_iff,pD])))⟩
instance{a0 a1}:MA (Gv a0 a1) (Ir a0 a1):=⟨by unfold Ir Gv Li Dr Ci Dm;((try simp only[oA,BA,ba,bs,bc,OD,SI,List.nil_append]);repeat' (first | (with_reducible first | intro _ | apply gF | apply kF | exact .r0 | apply nB | apply oC | refine .bd inferInstance ?_ | apply UB | apply jB | refine .ct ‹_› ?_ | refine .cf ‹_› ?_) | (with_reducible refine Ag.cr (λ_=>?_) (λ_=>?_)<;>try (exfalso;grind (splits:=3) [nA,NA,eA,zid, →zjw,tB];done)) | (with_reducible first | (apply TM;simp only[ba,bc,bs,bn]) | apply tD | apply qC | apply RG | refine .bT inferInstance ‹_› ?_ | apply FE) | (refine .s ?_;grind [nA,NA,eA,TB,tC,List.length_eq_zero_iff,zid, →zjw,tB])))⟩
instance{a0 a1}:MA (Fw a0 a1) (Gp a0 a1):=⟨by unfold Gp Fw;((try simp only[BA,aK]);repeat' ((with_reducible first | intro _ | exact .r0 | apply nB | apply oC)))⟩
end Go.D
namespace Go.D
def Ag.li{α σ:Type}(I:σ→Prop){f f':σ→(σ→Option α)→Option α}{x0:σ}(h0:I x0)(e:∀x k k',I x→(∀y,I y→Ag (k y) (k' y))→Ag (f x k) (f' x k')):∀n,Ag (tA n f x0) (tA n f' x0):=by
 intro n;induction n generalizing x0 with
 | zero=>exact nl
 | succ n ih=>exact e _ _ _ h0 λ_ h=>ih h
def zwv{k:Int}:Ag (Ic k) (Dk k):=by
 by_cases h:0≤k∧k≤10
 ·have:k=0∨k=1∨k=2∨k=3∨k=4∨k=5∨k=6∨k=7∨k=8∨k=9∨k=10:=by omega
  rcases this with rfl | rfl | rfl | rfl | rfl | rfl | rfl | rfl | rfl | rfl | rfl<;>exact Ag.r0
 ·unfold Dk;refine .cr (λhc=>absurd ?_ h) λ_=> .nr;simp only[B,List.length_cons,List.length_nil]at hc;omega
instance{k:Int}:MA (Dk k) (Ic k):=⟨zwv⟩
end Go.D
namespace Go.D
set_option maxHeartbeats 2000000
def zgB{α:Type}{l:List α}{m:Nat}{j:Int}(h:m+j.toNat<l.length)(hj:0≤j):kA (List.take ((l.length:Int) - (m:Int)).toNat (List.drop m l)) j=l[m+j.toNat]?:=by
 unfold kA;rw[if_pos hj,List.getElem?_take,if_pos (by omega),List.getElem?_drop]
def Ag.lb{α β σ:Type}{K:α→Option β}{f:σ→(σ→Option α)→Option α}{f':σ→(σ→Option β)→Option β}{x0:σ}(e:∀x k k',(∀y,Ag (Option.bind (k y) K) (k' y))→Ag (Option.bind (f x k) K) (f' x k')):∀n,Ag (Option.bind (tA n f x0) K) (tA n f' x0):=by
 intro n;induction n generalizing x0 with
 | zero=>exact nl
 | succ n ih=>exact e _ _ _ λ_=>ih
def zv5{a0 a1 a2}:Ag (Gc a0 a1 a2) (Fu a0 a1 a2):=by
 unfold Gc Fu
 (try simp only[BA,List.nil_append,yJ,uE])
 refine .cc (λ_=> .r0) λ_=> .jj (λy=>?_) λk k' hk=>Ag.li (λx=>x.1.length≤8) (by decide) (λx k4 k4' hx QV=>?_) _
 ·(repeat' ((with_reducible first | intro _ | exact .r0 | apply nB | refine .bd inferInstance ?_ | apply DD | apply UB | apply jB)))
 ·have hi:=λr:Int=>@LA (x.1.length:Int) r;refine .cc (λ_=> .bd inferInstance λe _ _=> .bl λr6 h6=> .jBl (.jBr (.bd inferInstance λso hso _=> .cc (λ_=> .r0) λhs=> .bT inferInstance h6 λ_=> .ce ?_ (λ_=> .r0) λhl=>?_))) λ_=>hk _
  ·obtain⟨q,hq,hb⟩:=ze0 (a0:=e.Kind);cases hq.symm.trans h6;rw[hi r6 (by omega) (by omega)];exact decide_eq_decide.2 (by omega)
  ·obtain⟨q,hq,hb⟩:=zi6 (a0:=e);cases hq.symm.trans hso;obtain⟨q,hq,hc⟩:=ze0 (a0:=e.Kind);cases hq.symm.trans h6;have hb:=hb (by simpa using hs);have MV:r6≤(x.1.length:Int):=by simp only[B]at hl;rw[hi r6 (by omega) (by omega)]at hl;omega
   have hi:=hi r6 (by omega) (by omega);obtain⟨m,hm⟩:∃m:Nat,(x.1.length:Int) - r6=m:=⟨_,(Int.toNat_of_nonneg (by omega)).symm⟩;rw[hm]at hi;refine .gl λ_=> .bT inferInstance h6 λ_=>?_;have lY:1≤r6→_:=λh=>zgB (l:=x.1) (m:=m) (j:=0) (by omega) (by omega);have J2:2≤r6→_:=λh=>zgB (l:=x.1) (m:=m) (j:=1) (by omega) (by omega);have XZ:3≤r6→_:=λh=>zgB (l:=x.1) (m:=m) (j:=2) (by omega) (by omega);have e1:iA .i64 (m:Int) 1=((m+1:Nat):Int):=DA (by omega) (by omega);have e2:iA .i64 (m:Int) 2=((m+2:Nat):Int):=DA (by omega) (by omega)
   have h8:decide (((m+1:Nat):Int)>8)=((m:Int)==8):=by
    rw[Bool.eq_iff_iff,decide_eq_true_iff,beq_iff_eq];omega
   have dW:∀(b:List UInt8) (i:Int),((m:Int)==8)=false→Ag (k4 (List.take m x.1++[b],i)) (k4' (List.take m x.1++[b],i)):=λb i h=>QV _ (by have h:=beq_eq_false_iff_ne.1 h;simp only[List.length_append,List.length_take,List.length_cons,List.length_nil];omega);have:e.Kind=1∨e.Kind=2∨e.Kind=3∨e.Kind=4∨e.Kind=5∨e.Kind=6∨e.Kind=7∨e.Kind=8∨e.Kind=9∨e.Kind=10:=by omega
   unfold Kx
   rcases this with h | h | h | h | h | h | h | h | h | h
   all_goals (try have lY:=lY (by omega))
   all_goals (try have J2:=J2 (by omega))
   all_goals (try have XZ:=XZ (by omega))
   all_goals (simp only[h,hi,lY,J2,XZ,aA,beq_self_eq_true,cond_true,cond_false,Int.reduceBEq,ba,bc,bs,bn,h8,e1,e2,List.drop_zero,Int.sub_zero,Int.toNat_natCast,Int.reduceToNat,Nat.add_zero,yJ,zgR,uE,List.nil_append,Bool.not_true,Bool.not_false])
   rotate_left 5
   ·refine .gr λ_=> .bd inferInstance λu hu _=> .gr λ_=> .bd inferInstance λv hv _=> .cl (λh1=> .cf (by simp only[bne,h1];rfl) ?_) λh1=> .ct (by simp only[bne,h1];rfl) .r0;simp only[hu,hv,bs,Kw,aA];refine .lb (λx k k' CW=>?_) _;simp only[ba,bc,bs,bn]
    repeat' (first | exact dW _ _ ‹_› | exact CW _ | (with_reducible first | intro _ | exact .r0 | refine .bd inferInstance ?_ | apply DD | apply UB | apply jB) | fail | (fail) | dsimp only[cond_true,cond_false])
   all_goals (repeat' (first | exact dW _ _ ‹_› | (with_reducible first | intro _ | exact .r0 | apply nB | apply oC | refine .bd inferInstance ?_ | apply DD | apply UB | apply jB) | (with_reducible first | intro _ | apply tD | apply qC | refine .bR ‹_› ?_ | refine .ct ‹_› ?_ | refine .cf ‹_› ?_ | apply FE | apply eG) | ((exfalso;grind [nA,NA,eA])) | dsimp only[cond_true,cond_false]))
instance{a0:List Bc}{a1:List Ap}{a2:List (List UInt8)}:MA (Fu a0 a1 a2) (Gc a0 a1 a2):=⟨zv5⟩
end Go.D
namespace Go.D
open Option renaming bind→ob
set_option maxHeartbeats 1000000
def Ag.bM{α β γ:Type}{x:Option α}{y:Option β}(g:α→β)(h:Ag (ob x λv=>some (g v)) y){f:α→Option γ}{f':β→Option γ}(k:∀v,x=some v→Ag (f v) (f' (g v))):Ag (ob x f) (ob y f'):=by
 cases hx:x with
 | none=>exact nl
 | some v=>
  cases hy:y with
  | none=>exact nr
  | some w=>
   subst hx hy;have:=h _ _ rfl rfl;subst this;exact k v rfl
def Ag.lr{α σ τ:Type}(R:σ→τ→Prop){f:σ→(σ→Option α)→Option α}{f':τ→(τ→Option α)→Option α}{x0:σ}{y0:τ}(h0:R x0 y0)(e:∀x y k k',R x y→(∀x y,R x y→Ag (k x) (k' y))→Ag (f x k) (f' y k')):∀n,Ag (tA n f x0) (tA n f' y0):=by
 intro n;induction n generalizing x0 y0 with
 | zero=>exact nl
 | succ n ih=>exact e _ _ _ _ h0 λ_ _ h=>ih h
def zwF{a0 a1 a2 a3}(ha:eB a0=true)(ht:eA a1 0 2=true)(hf:GA a2=true):Ag (ob (Cm a0 a1 a2 a3) λr=>some (r.2,r.1)) (Ho a0 a1 a2 a3):=by
 unfold Cm Ho
 (try simp only[oA,FG,ba,bc,bs,bn])
 simp only[aA,ha,ht,hf,Bool.not_true,cond_false,cond_true]
 ((try simp only[oA,FG,ba,bc,bs,bn]);repeat' (first | (with_reducible first | intro _ | exact .r0 | apply nB | refine .bd inferInstance ?_ | apply DD | apply UB | apply jB | apply qC | refine .bR ‹_› ?_ | apply FE | apply eG) | (refine .s ?_;grind [nA,NA,eA,TB,tC,List.length_eq_zero_iff])))
def zwz{a0}(ha:eB a0=true)(ht:(a0.Now==1000000)=false):Ag (ob (Dz a0) λr=>some (r.2,r.1)) (Gz a0):=by
 unfold Dz Gz
 (try simp only[oA,FG,ba,bc,bn,bs])
 refine .pl λ_=>?_;simp only[aA,ha,ht,ba];refine .pl λ_=>?_;have hc:(a0.Clients.length:Int)=2:=by rw[(HC.1 ha).cl];rfl
 simp only[Bool.not_true,cond_false,hc];refine .lb (λx k k' hk=>?_) _
 (try simp only[oA,FG,ba,bc,bn,bs])
 (repeat' ((with_reducible first | intro _ | exact .r0 | refine .bd inferInstance ?_ | apply DD | apply UB | apply jB | (apply_assumption;done))))
def zxr{l:List Ap}{x:Ap}:Pc (Iw l x) λr=>r=cond (QD (l++[x])) (l++[x]) l:=by
 unfold Iw
 (try simp only[List.nil_append,oA])
 refine .g λ_=> .g λ_=> .p λ_=> .c (λh=> .p λ_=> .s ?_) λh=> .s ?_
 ·rw[show QD (l++[x])=false by simpa using h];rfl
 ·rw[show QD (l++[x])=true by simpa using h];rfl
def zkn{l:List Ap}{x:Ap}(hl:QD l=true)(hx:PE x=true):QD (l++[x])=decide ((l.length:Int)<90):=by
 simp only[QD,Bool.and_eq_true,Bool.not_eq_true',decide_eq_true_eq,List.any_append,List.any_cons,List.any_nil,hx]at hl⊢;rw[List.length_append,List.length_singleton];rw[hl.1];simp only[Bool.not_true,Bool.or_false,Bool.not_false,Bool.true_and];exact decide_eq_decide.2 (by omega)
def zV{α:Type}{l:List α}{i:Int}{e:α}(h:kA l i=some e):e∈l:=by
 unfold kA at h;split at h
 ·exact List.mem_of_getElem? h
 ·cases h
def fT{w:Aa}{l:List Ap}{ns:List Ad}(hs:QD w.Seen=true)(hl:∀x∈l,PE x=true):Ag (Ca ⟨w.Now,w.Clients,w.S,w.D,w.Seen,w.Known,w.Notes++ns⟩ l) (Cc w l ns):=by
 unfold Ca Cc
 (try simp only[oA])
 simp only[aA];refine .pl λ_=>Ag.lr (λx y=>x.1=y.1∧QD y.2.Seen=true∧x.2=⟨y.2.Now,y.2.Clients,y.2.S,y.2.D,y.2.Seen,y.2.Known,w.Notes++ns⟩∧y.2.Notes=w.Notes) ⟨rfl,hs,rfl,rfl⟩ (λx y k k' ⟨h1,h2,h3,h4⟩ hk=>?_) _;rw[h1];refine .cc (λ_=> .bl λe he=> .bl λr hr=>?_) λ_=> .gr λ_=> .s (by rw[h3,h4]);have hr:=zxr r hr;have hm:=zV he;have h5:x.2.Seen=y.2.Seen:=by rw[h3]
 rw[h5,zkn h2 (hl _ hm)]at hr;refine .cr (λh=>?_) λh=>hk _ _ ⟨rfl,h2,?_,h4⟩
 ·rw[h,cond_true]at hr;refine .bR he (.gr λ_=>hk _ _ ⟨rfl,?_,?_,h4⟩)
  ·show QD (y.2.Seen++[e])=true
   rw[zkn h2 (hl _ hm)];exact h
  ·rw[hr,h3]
 ·rw[h,cond_false]at hr;rw[hr,h3]
def zeg{w:Aa}{i:Int}{c:Ae}{fs:List Ab}{ns:List Ad}(hs:QD w.Seen=true)(hc:tB c=true)(hf:wt fs≤400):
  Ag (cond (decide (0≤i)&&decide (i<(w.Clients.length:Int))) (ob (w.Clients[i.toNat]?) λ_=>cond (decide (w.Notes.length+ns.length≤bA)) (ob (Cj c fs) λr24=>ob (Ca ⟨w.Now,List.set w.Clients i.toNat c,w.S,w.D,w.Seen,w.Known,w.Notes++ns⟩ r24) λr53=>some (r53,true)) none) none)
  (ob (Dl w i c fs ns) λr=>some (r,true)):=by
 unfold Dl
 (try simp only[bc,ba,bs,bn])
 refine .gl λ_=> .cr (λ_=> .bd inferInstance λ_ _ _=> .gl λ_=> .bd inferInstance λr hr _=> .b (fT (w:=⟨w.Now,List.set w.Clients i.toNat c,w.S,w.D,w.Seen,w.Known,w.Notes⟩) hs ?_) λ_ _ _=> .r0) λ_=> .nr;obtain⟨q,hq,_,h⟩:=@zaQ c fs (by have:=(WD hc).1;omega) (by omega);cases hq.symm.trans hr;exact λx hx=>((h (zem hc)).1 x hx).1
def zwB{n:Int}(h:0≤n∧n≤255):GA (AB n)=true:=by
 unfold AB;rw[if_pos h];simp only[GA,Bool.and_eq_true,Bool.or_eq_true,fC,beq_iff_eq];omega
def zd0{w:Aa}{b:Bool}:Ag (ob (Ca w []) λr=>some (r,b)) (some (w,b)):=by
 have h:Pc (Ca w []) λr=>r=w:=by
  unfold Ca
  (try simp only[oA])
  refine .p λ_=> .j (.l (λx=>x=(0,w)) rfl (λx k hx hk=>?_) _);subst hx;exact .s rfl
 exact .bl λr hr=> .s (by rw[h r hr])
def zuT{c:Ae}:Pc (Cj c []) λr=>r=[]:=by
 unfold Cj
 (try simp only)
 refine .j (.l (λx=>x=([],0)) rfl (λx k hx hk=>?_) _);subst hx;exact .s rfl
def zmC:Pc (Dx []) λr=>r=[]:=by
 unfold Dx
 (try simp only)
 refine .j (.l (λx=>x=([],0)) rfl (λx k hx hk=>?_) _);subst hx;exact .s rfl
def zv9{s:Ac}(hs:KB s=true):Pc (Ez s) λr=>((r.2.length:Int)==0)= !decide (s.D.N<10000):=by
 unfold Ez
 (try simp only[oA,iE,ZD,BA,JC])
 have hd:=(rF.1 hs).dice;simp only[gC,Bool.and_eq_true,fC]at hd;refine .p λ_=> .j (.p λ_=> .c (λh=>by rw[hs]at h;cases h) λ_=>?_);cases h:s.D.N==10000
 ·refine .p λ_=> .p λ_=> .p λ_=> .s ?_;rw[decide_eq_true (by have:=beq_eq_false_iff_ne.1 h;omega)];rfl
 ·refine .s ?_;rw[decide_eq_false (by have:=beq_iff_eq.1 h;omega)];rfl
def zaB{a0:Aa}{a1:Int}{a2:Ai}{a3:List UInt8}(ha:eB a0=true)(hn:wt a0≤400000000)(h:0≤a1∧a1≤2)(hf:GA a2=true)(hb:wt a3≤900000000):
  Ag (ob (Cm a0 a1 a2 a3) λv=>ob (Ca v.1 v.2) λr=>some (r,true)) (ob (Cz a0 a1 a2 a3) λr=>some (r,true)):=by
 unfold Cz
 (try simp only[ba,bs])
 refine .bM (λr=>(r.2,r.1)) (zwF ha (fC.2 h) hf) λv hv=>?_;obtain⟨q,hq,E⟩:=@zgM a0 a1 a2 a3 ha hn h.1 h.2 hb;cases hq.symm.trans hv;have:=fT (w:=v.1) (ns:=[]) (HC.1 E.ok).seen E.wires;rw[List.append_nil]at this;exact .b this λ_ _ _=> .r0
def zl0{w:Aa}{c:Ak}:Ag (ob (Gn c) λv=>cond (decide (w.Known.length+v.length≤bA)) (ob (pt (wt c.Sn≤bA) c.Sn) λs=>cond (decide (w.Notes.length+[(⟨13,0,0,[],s,0,0,[],[],(⟨0,0⟩:Ai),0⟩:Ad)].length≤bA)) (cond (!decide (((w.Known++v).length:Int)≤12)) (some (w,false)) (ob (Ca ⟨w.Now,w.Clients,w.S,w.D,w.Seen,w.Known++v,w.Notes++[(⟨13,0,0,[],s,0,0,[],[],(⟨0,0⟩:Ai),0⟩:Ad)]⟩ []) λr=>some (r,true))) none) none)
  (ob (Fv w c) λr=>some (cond r.1 r.2 w,r.1)):=by
 unfold Fv
 (try simp only[List.nil_append,ba,bc,bs,bn])
 refine .bd inferInstance λv hv _=> .gl λh1=> .pl λ_=> .gl λ_=> .ce ?_ (λ_=> .r0) λ_=> .gr λ_=> .gr λ_=> .gr λ_=>zd0;have h1:=of_decide_eq_true h1;have:=DB;rw[DA (by omega) (by omega),List.length_append, ←decide_not];exact decide_eq_decide.2 (by omega)
def zxF{a0 a1}(ha:eB a0=true)(hn:wt a0≤400000000)(hw:wt a1≤300000)(he:fF a1=true)(hl:decide ((a0.Notes.length:Int)>500)=false):Ag (Fb a0 a1) (ob (Fx a0 a1) λr=>some (cond r.1 r.2 a0,r.1)):=by
 have hp:∀{α:Type} (v:α),pt (wt a0≤bA) v=some v:=λ_=>qA (by have:=DB;omega);have W:=HC.1 ha;have hs:=W.seen;have hf:=lO he;have F:=mO ha
 have hP:∀a,KM a0 a≤2:=λa=>by
  obtain⟨q,hq,_,h⟩:=@zct a0 a (by have:=DB;omega) F.2.2.2.2.2.1;cases(hp _).symm.trans hq;exact h
 simp only[HT]at F;have hj:0≤zA .i64 a1.J 3∧zA .i64 a1.J 3<3:=gH (by omega) (by omega);have iX:0≤zA .i64 a1.N 256∧zA .i64 a1.N 256<256:=gH (by omega) (by omega);have R8:=zwB (n:=zA .i64 a1.N 256) ⟨iX.1,by omega⟩
 have hX:∀x∈a0.Seen,GA x.From=true∧wt x.B≤900000000:=λx hx=>by
  have h1:=hs;simp only[QD,Bool.and_eq_true,Bool.not_eq_true',List.any_eq_false]at h1;have:=h1.1 x hx;simp only[PE,Bool.and_eq_true,decide_eq_true_eq]at this;exact⟨by grind,by simp only[N];grind⟩
 have hk:a1.Kind=1∨a1.Kind=2∨a1.Kind=3∨a1.Kind=4∨a1.Kind=5∨a1.Kind=6∨a1.Kind=7∨a1.Kind=8∨a1.Kind=9∨a1.Kind=10∨a1.Kind=11∨a1.Kind=12∨a1.Kind=13∨a1.Kind=14∨a1.Kind=15∨a1.Kind=16∨a1.Kind=17:=by omega
 unfold Fb Fx Kv Lg Lh Lf
 (try simp only[oA,iE,ZD,bc,ba,bn,gL,BA,bs,FG,List.nil_append])
 rcases hk with h | h | h | h | h | h | h | h | h | h | h | h | h | h | h | h | h
 all_goals simp(config:={decide:=false}) only[h,hp,ha,he,hl,aA,Bool.not_true,Bool.not_false,cond_true,cond_false,Int.reduceBEq,ge_iff_le,Int.reduceLE,decide_true,decide_false,beq_self_eq_true,ba,bs,bc,bn,bne]
 ·refine .cl (λhc1=> .bl λc hc=> .pl λd6=> .pl λU9=> .gl λhp3=>?_) λ_=> .nl;refine .pr λ_=> .ct hc1 (.bR hc (.bd inferInstance λv hv _=> .cr (λh1=>?_) λh1=> .pr λ_=> .gr λ_=>?_))
  ·simp only[h1,cond_true];exact .gl λ_=> .bl λ_ _=> .gl λ_=> .bl λ_ _=> .r0
  ·simp only[h1,cond_false];obtain⟨q,hq,p1,p2,p3,p4,p5⟩:=@zjV c a0.Now (RC a0.D).2 (aT ha (List.mem_of_getElem? hc)) (by have:=(sL a0.D).2.1;omega);cases hq.symm.trans hv;exact zeg (w:=⟨a0.Now,a0.Clients,a0.S,(RC a0.D).1,a0.Seen,a0.Known,a0.Notes++[LE (RC a0.D).2]⟩) hs p1 p5.2
 ·refine .cc (λ_=> .bd inferInstance λc hc _=> .bd inferInstance λv hv _=> .cr (λh1=>?_) λh1=>?_) λ_=> .nr
  ·simp only[h1,cond_true];exact .gl λ_=> .bl λ_ _=> .gl λ_=> .bl λ_ _=> .r0
  ·simp only[h1,cond_false];obtain⟨q,hq,p1,p2,p3,p4,p5⟩:=@zih c a0.Now a1.B (aT ha (List.mem_of_getElem? hc)) (by omega);cases hq.symm.trans hv;exact zeg hs p1 p5.2
 ·refine .bd inferInstance λv hv _=> .gl λ_=> .cr (λh1=>?_) λh1=> .bd inferInstance λl hl _=>?_
  ·simp only[h1,cond_true];exact .bl λ_ _=> .r0
  ·simp only[h1,cond_false];obtain⟨q,hq,p1,p2,p3,p4,p5⟩:=@zii a0.S a0.Now a1.I a1.B W.srv (by simp only[N];omega);cases hq.symm.trans hv;obtain⟨q,hq,_,p6⟩:=@zfa v.2.1 (by omega) p3;cases hq.symm.trans hl;exact .b (fT (w:=⟨a0.Now,a0.Clients,v.1,a0.D,a0.Seen,a0.Known,a0.Notes⟩) hs λx hx=>(p6 x hx).1) λ_ _ _=> .r0
 ·have hN:=fC.1 W.now;refine .cr (λh1=> .bl λ_ _=>?_) λh1=> .bM (λr=>(r.2,r.1)) (zwz ha h1) λv hv=>?_
  ·rw[decide_eq_false (by have:=beq_iff_eq.1 h1;omega)];exact .r0
  ·rw[decide_eq_true (by have:=beq_eq_false_iff_ne.1 h1;omega)];obtain⟨q,hq,E⟩:=@zlP a0 ha hn;cases hq.symm.trans hv;have:=fT (w:=v.1) (ns:=[]) (HC.1 E.ok).seen E.wires;rw[List.append_nil]at this;exact .b this λ_ _ _=> .r0
 ·refine .cc (λ_=> .bd inferInstance λc hc _=> .bd inferInstance λv hv _=> .cc (λ_=> .bd inferInstance λ_ _ _=> .gl λ_=> .bl λl hl=>?_) λ_=> .nr) λ_=> .nr;rw[zuT l hl,List.append_nil];exact zd0
 ·refine .cc (λ_=> .bd inferInstance λc hc _=> .bd inferInstance λv hv _=> .cr (λh1=>?_) λh1=>?_) λ_=> .nr
  ·simp only[h1,cond_true];exact .gl λ_=> .bl λ_ _=> .gl λ_=> .bl λ_ _=> .r0
  ·simp only[h1,cond_false];obtain⟨q,hq,p1,p2,p3,p4,p5⟩:=@zig c a0.Now (aT ha (List.mem_of_getElem? hc));cases hq.symm.trans hv;exact zeg hs p1 p5.2
 ·refine .cc (λ_=> .r0) λ_=> .cc (λ_=> .r0) λ_=> .bl λx hx=> .pl λd6=> .gr λ_=> .bI hx (.cc (λ_=> .r0) λh1=>?_);obtain⟨f1,f2⟩:=hX x (zV hx);exact zaB ha hn ⟨by have:=of_decide_eq_false h1;omega,hP x.To⟩ f1 f2
 ·refine .cc (λ_=> .r0) λ_=> .cc (λ_=> .r0) λ_=> .bl λx hx=> .pl λd6=> .gr λ_=> .bI hx ?_;exact zaB ha hn ⟨by omega,by omega⟩ R8 (hX x (zV hx)).2
 ·refine .cc (λ_=> .r0) λ_=> .cc (λ_=> .r0) λ_=> .bl λx hx=> .pl λd6=> .gr λ_=> .bI hx ?_;obtain⟨f1,f2⟩:=hX x (zV hx);rw[decide_eq_false (by omega)];exact zaB ha hn ⟨hj.1,by omega⟩ f1 f2
 ·refine .cc (λ_=> .r0) λ_=> .cc (λ_=> .r0) λ_=> .bl λx hx=> .pl λd6=> .gr λ_=> .bI hx ?_;obtain⟨f1,f2⟩:=hX x (zV hx);refine .cr (λh1=>?_) λh1=>?_
  ·simp only[h1,cond_true];exact .cl (λ_=> .r0) λ_=> .cl (λ_=> .nl) λ_=> .gl λ_=> .bl λ_ _=> .gl λ_=> .bl λ_ _=> .r0
  ·simp only[h1,cond_false];exact .cc (λ_=> .r0) λ_=> .gr λ_=> .cc (λ_=> .r0) λ_=> .cc (λ_=> .bd inferInstance λv _ _=> .cc (λ_=> .bd inferInstance λ_ _ _=>zaB ha hn ⟨by have:=of_decide_eq_false h1;omega,hP x.To⟩ f1 (by simp only[N,List.length_set]at f2⊢;exact f2)) λ_=> .r0) λ_=> .r0
 ·refine .bd inferInstance λv hv _=> .cr (λh1=>?_) λh1=>?_
  ·simp only[h1,cond_true];exact .bl λ_ _=> .r0
  ·simp only[h1,cond_false];obtain⟨q,hq,p⟩:=@zjB a1.Ops a0.Seen a0.Known (by simp only[N]at hw⊢;omega) (by omega) (by omega);cases hq.symm.trans hv;exact zaB ha hn ⟨hj.1,by omega⟩ R8 (by simp only[N];omega)
 ·refine .bd inferInstance λv hv _=> .gl λ_=> .bl λl hl=>?_;rw[zmC l hl, ←zv9 W.srv v hv];exact .cc (λ_=> .r0) λ_=> .b (fT (w:=⟨a0.Now,a0.Clients,v.1,a0.D,a0.Seen,a0.Known,a0.Notes⟩) hs nofun) λ_ _ _=> .r0
 ·refine .cc (λh0=> .bl λc hc=> .bR hc (.cl (λh1=> .ct h1 ?_) λh1=> .cf h1 (.ct h0 (.bR hc (.bd inferInstance λv hv _=>?_))))) λ_=> .nr
  ·exact .bl λ_ _=> .gl λ_=> .bl λ_ _=> .gl λ_=> .bl λ_ _=> .r0
  ·obtain⟨q,hq,p1,_⟩:=@zjH c (aT ha (List.mem_of_getElem? hc));cases hq.symm.trans hv;exact zeg hs p1 (Nat.zero_le _)
 ·refine .bd inferInstance λv hv _=> .gl λ_=> .bl λl hl=>?_;rw[zmC l hl];exact .cc (λ_=> .r0) λ_=> .b (fT (w:=⟨a0.Now,a0.Clients,v.1,a0.D,a0.Seen,a0.Known,a0.Notes⟩) hs nofun) λ_ _ _=> .r0
 ·refine .cc (λh0=> .bl λc hc=> .bR hc ?_) λ_=> .nr;cases c.St==3
  ·exact .r0
  ·exact .ct rfl (.ct h0 (.bR hc zl0))
 ·refine .cl (λh0=> .cf (decide_eq_false (by have:=of_decide_eq_true h0;omega)) .r0) λh0=> .ct (decide_eq_true (by have:=of_decide_eq_false h0;omega)) (.gl λ_=> .bl λe hx=> .bJ hx ?_);cases e.Dead
  ·exact .gl λ_=> .bl λe hx=> .bJ hx zl0
  ·exact .r0
 ·exact .cc (λ_=> .bd inferInstance λv _ _=>zd0) λ_=> .bd inferInstance λv _ _=>zd0
end Go.D

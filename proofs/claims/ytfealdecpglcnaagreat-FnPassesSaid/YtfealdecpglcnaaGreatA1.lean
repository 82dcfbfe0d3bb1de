/-
 The two machines agree.
-/
import Derived.Test.YtfealdecpglcnaaGreatX1
set_option linter.all false
namespace Go.D
set_option maxHeartbeats 2000000
instance{a0}:KA (Bj a0) (Bg a0):=⟨by unfold Bg Bj;simp only[zf0];((try simp only[TC,jV,UB,DS,zfF]);repeat' (first | (with_reducible first | intro _ | exact .r0 | apply pB | apply kC | apply RB | apply jB | refine .ct ‹_› ?_ | refine .cf ‹_› ?_) | (with_reducible first | apply mC | apply HG) | (refine .s ?_;grind [oA,NA,eA,QB,rC,List.length_eq_zero_iff,zkJ]) | dsimp only[cond_true,cond_false]));(refine Ag.lI (λx=>∃i:Nat,x=(λi:Nat=>([UInt8.ofNat (IntKind.u8.wrap a0.Kind).toNat]++[UInt8.ofNat (IntKind.u8.wrap a0.Id).toNat]++a0.Cn++List.replicate i 0,(i:Int))) i∧i≤20) ⟨0,by first | rfl | simp,by decide⟩ (λx k hx hk=>?_) _;obtain⟨i,hx,h2⟩:=hx;have hi:(i:Int)<20→iA .i64 (i:Int) 1=((i+1:Nat):Int):=λh=>(by rw[DA (by omega) (by omega)];omega);subst hx;refine .cr (λhc=> .gr λ_=>hk _ ⟨i+1,?_,?_⟩) λhc=>?_;(· simp only[B]at hc;simp[hi hc,List.replicate_succ']);(· simp only[B]at hc;omega);have he:i=20:=(by simp only[B]at hc;omega);subst he;try dsimp only);(repeat' ((refine .s ?_;grind [oA,NA,eA,QB,rC,List.length_eq_zero_iff])))⟩
instance{a0 a1 a2}:KA (Dx a0 a1 a2) (Fw a0 a1 a2):=⟨by unfold Fw Dx;(repeat' ((with_reducible first | intro _ | exact .r0 | refine .bd inferInstance ?_)))⟩
instance{a0 a1}:KA (Dy a0 a1) (Fx a0 a1):=⟨by unfold Fx Dy;((try simp only);repeat' ((with_reducible first | intro _ | exact .r0 | refine .bd inferInstance ?_ | apply yD | apply RB | apply jB | apply jL | apply MC | (apply_assumption;done))))⟩
instance{a0}:KA (Bf a0) (Bf a0):=⟨.r0⟩
instance{a0}:KA (Ez a0) (Fu a0):=⟨by unfold Fu Ez;((try simp only[CA,List.nil_append]);repeat' ((with_reducible first | intro _ | exact .r0 | apply pB | apply RB)))⟩
instance{a0 a1 a2}:KA (Fa a0 a1 a2) (Rz a0 a1 a2):=⟨by unfold Rz Fa;((try simp only[nA,CA,ID,List.nil_append]);repeat' ((with_reducible first | intro _ | exact .r0 | apply pB | apply kC | refine .bd inferInstance ?_ | apply RB | apply jB | apply MC | (apply_assumption;done))))⟩
instance{a0 a1 a2 a3}:KA (Cb a0 a1 a2 a3) (Em a0 a1 a2 a3):=⟨by unfold Em Cb;((try simp only[UB,jV]);repeat' (first | (with_reducible first | intro _ | exact .r0 | apply pB | apply kC | apply RB | apply jB | apply MC | (apply_assumption;done) | apply mC | refine .ct ‹_› ?_ | refine .cf ‹_› ?_ | apply XF) | (refine .s ?_;rfl) | (refine .kk ‹_› ?_;grind [oA,NA,eA])))⟩
instance{a0 a1 a2}:KA (Gj a0 a1 a2) (Hq a0 a1 a2):=⟨by unfold Hq Gj;((try simp only[zfN,UB]);repeat' ((with_reducible first | intro _ | exact .r0 | apply pB | apply kC | apply RB | apply jB | apply MC | (apply_assumption;done))))⟩
instance{a0 a1 a2}:KA (Ey a0 a1 a2) (Hr a0 a1 a2):=⟨by unfold Hr Ey;((try simp only[CA,List.nil_append]);repeat' ((with_reducible first | intro _ | exact .r0 | apply pB | refine .bd inferInstance ?_ | apply yD | apply RB | apply jB | apply jL | apply MC | (apply_assumption;done))))⟩
instance{a0 a1 a2}:KA (Dv a0 a1 a2) (En a0 a1 a2):=⟨by unfold En Dv;((try simp only);repeat' (first | (with_reducible first | intro _ | apply ZE | apply cF | exact .r0 | refine .bd inferInstance ?_ | apply yD | apply RB | apply jB | apply jL | apply MC | (apply_assumption;done)) | (with_reducible refine Ag.cr (λ_=>?_) (λ_=>?_)<;>try (exfalso;grind (splits:=3) [oA,NA,eA,zgd, →zeS];done)) | (with_reducible first | apply oD | apply mC | refine .bR ‹_› ?_ | apply BE) | (refine .kk ‹_› ?_;grind [oA,NA,eA,zgd, →zeS]) | (exfalso;grind [oA,NA,eA,zgd, →zeS])))⟩
instance{a0 a1}:KA (Bu a0 a1) (Cg a0 a1):=⟨by unfold Cg Bu;((try simp only[jV,TC]);repeat' (first | (with_reducible first | intro _ | exact .r0 | apply pB | refine .bd inferInstance ?_ | apply RB | apply jB | apply MC | (apply_assumption;done) | apply mC | apply XF) | (refine .kk ‹_› ?_;grind [oA,NA,eA])))⟩
instance{a0 a1}:KA (Cm a0 a1) (Ca a0 a1):=⟨by unfold Ca Cm;((try simp only[CA,List.nil_append]);repeat' (first | (with_reducible first | intro _ | exact .r0 | apply pB | apply yD | apply RB | apply mC | apply XF) | (refine .s ?_;grind [oA,NA,eA,QB,rC,List.length_eq_zero_iff])))⟩
instance{a0 a1 a2 a3 a4 a5 a6}:KA (Dw a0 a1 a2 a3 a4 a5 a6) (Dl a0 a1 a2 a3 a4 a5 a6):=⟨by unfold Dl Dw;rw[show List.replicate (16:Int).toNat (UInt8.ofNat (0:Int).toNat)=List.replicate 16 0 from rfl];((try simp only[CA,TC,List.nil_append]);repeat' (first | (with_reducible first | intro _ | apply ZE | apply cF | exact .r0 | apply pB | refine .bd inferInstance ?_ | apply RB | refine .ct ‹_› ?_ | refine .cf ‹_› ?_) | (with_reducible refine Ag.cr (λ_=>?_) (λ_=>?_)<;>try (exfalso;grind (splits:=3) [oA,NA,eA, →zeK,wB,VF];done)) | (with_reducible first | apply oD | apply mC | apply HG | apply BE) | (exfalso;grind [oA,NA,eA, →zeK,wB,VF]) | dsimp only[cond_true,cond_false]));all_goals ((refine Ag.lI (λx=>∃i:Nat,x=(λi:Nat=>((i:Int),(⟨a5,0,[],a2,0,[],[],a3,a4,_,List.replicate i 0⟩:Aa))) i∧i≤16) ⟨0,by first | rfl | simp,by decide⟩ (λx k hx hk=>?_) _;obtain⟨i,hx,h2⟩:=hx;have hi:(i:Int)<16→iA .i64 (i:Int) 1=((i+1:Nat):Int):=λh=>(by rw[DA (by omega) (by omega)];omega);subst hx;refine .cr (λhc=> .gr λ_=>hk _ ⟨i+1,?_,?_⟩) λhc=>?_;(· simp only[B]at hc;simp[hi hc,List.replicate_succ']);(· simp only[B]at hc;omega);have he:i=16:=(by simp only[B]at hc;omega);subst he;try dsimp only);(repeat' (first | (with_reducible first | intro _ | exact .r0) | with_reducible refine .bT inferInstance ‹_› ?_)))⟩
instance{a0 a1 a2 a3 a4}:KA (Gk a0 a1 a2 a3 a4) (Eo a0 a1 a2 a3 a4):=⟨by unfold Eo Gk;((try simp only[nA]);repeat' (first | (with_reducible first | intro _ | apply ZE | apply cF | exact .r0 | apply pB | apply kC | apply jB | refine .ct ‹_› ?_ | refine .cf ‹_› ?_) | (with_reducible refine Ag.cr (λ_=>?_) (λ_=>?_)<;>try (exfalso;grind (splits:=3) [oA,NA,eA, →zli, →zeK,wB,VF,cD];done)) | (with_reducible first | apply oD | apply mC | refine .bT inferInstance ‹_› ?_ | apply BE)))⟩
instance{a0 a1 a2}:KA (Cc a0 a1 a2) (Br a0 a1 a2):=⟨by unfold Br Cc;cases a0;((try simp only[nA,sC]);repeat' (first | (with_reducible first | intro _ | exact .r0 | apply pB | apply kC | refine .bd inferInstance ?_ | apply jB) | with_reducible apply XF | with_reducible apply HG | (refine .s ?_;grind [oA,NA,eA,QB,rC,List.length_eq_zero_iff, →zjT])))⟩
instance{a0 a1}:KA (Dz a0 a1) (Eq a0 a1):=⟨by unfold Eq Dz;((try simp only[CA,List.nil_append]);repeat' ((with_reducible first | intro _ | exact .r0 | apply pB | apply RB)))⟩
instance{a0 a1}:KA (Bo a0 a1) (Bs a0 a1):=⟨by unfold Bs Bo;(repeat' ((with_reducible first | intro _ | exact .r0 | refine .bd inferInstance ?_)))⟩
instance{a0 a1 a2}:KA (Gm a0 a1 a2) (Sa a0 a1 a2):=⟨by unfold Sa Gm;((try simp only[nA,CA,ID,List.nil_append]);repeat' ((with_reducible first | intro _ | exact .r0 | apply pB | apply kC | refine .bd inferInstance ?_ | apply RB | apply jB | apply MC | (apply_assumption;done))))⟩
instance{a0}:KA (Ff a0) (Ff a0):=⟨.r0⟩
instance{a0}:KA (Bk a0) (Bk a0):=⟨.r0⟩
instance{a0}:KA (Fd a0) (Fv a0):=⟨by unfold Fv Fd;((try simp only[nA,sC]);repeat' ((with_reducible first | intro _ | exact .r0 | apply pB | apply kC | refine .bd inferInstance ?_ | apply jB | apply MC | (apply_assumption;done))))⟩
instance{a0 a1}:KA (Gv a0 a1) (Sb a0 a1):=⟨by unfold Sb Gv;((try simp only[nA,ID]);repeat' ((with_reducible first | intro _ | exact .r0 | apply pB | apply kC | refine .bd inferInstance ?_ | apply jB | apply MC | (apply_assumption;done))))⟩
instance{a0 a1}:KA (Gu a0 a1) (Gu a0 a1):=⟨.r0⟩
instance{a0}:KA (Hk a0) (Sd a0):=⟨by unfold Sd Hk Dm Ch Dg;((try simp only[ID,nA,CA,ba,bs,DI,List.nil_append]);repeat' (first | (with_reducible first | intro _ | exact .r0 | apply pB | apply kC | apply RB | apply jB) | with_reducible apply XF | with_reducible apply mC | (refine .s ?_;grind [oA,NA,eA,QB,rC,List.length_eq_zero_iff,zg3])))⟩
instance{a0}:KA (Dk a0) (Dk a0):=⟨.r0⟩
instance{a0 a1 a2}:KA (Fg a0 a1 a2) (Hs a0 a1 a2):=⟨by unfold Hs Fg;generalize (qB a0 a1).toNat=n;((try simp only[nA,List.nil_append]);repeat' (first | (with_reducible first | intro _ | apply ZE | apply cF | exact .r0 | apply pB | refine .bd inferInstance ?_ | apply yD | apply RB | apply jB) | (with_reducible refine Ag.cr (λ_=>?_) (λ_=>?_)<;>try (exfalso;grind (splits:=3) [oA,NA,eA,UD,wI,List.set_set];done)) | (with_reducible first | apply zgi | apply oD | apply mC | apply HG | refine .bR ‹_› ?_ | apply BE) | (refine .s ?_;grind [oA,NA,eA,QB,rC,List.length_eq_zero_iff,UD,wI,List.set_set])))⟩
instance{a0}:KA (Eb a0) (Cv a0):=⟨by exact zq0⟩
instance{a0 a1}:KA (Dh a0 a1) (Cw a0 a1):=⟨by unfold Cw Dh;((try simp only);repeat' ((with_reducible first | intro _ | exact .r0 | apply jB | apply jL | apply MC | (apply_assumption;done) | apply oD | apply mC | refine .bR ‹_› ?_ | refine .ct ‹_› ?_ | refine .cf ‹_› ?_)))⟩
instance{a0}:KA (Eh a0) (Dq a0):=⟨by unfold Dq Eh;(repeat' ((with_reducible first | intro _ | exact .r0 | refine .bd inferInstance ?_)))⟩
instance{a0 a1}:KA (Bx a0 a1) (Bx a0 a1):=⟨.r0⟩
instance{a0 a1 a2}:KA (Dj a0 a1 a2) (Dr a0 a1 a2):=⟨by unfold Dr Dj;((try simp only[nA,List.nil_append]);repeat' ((with_reducible first | intro _ | exact .r0 | apply pB | apply RB | apply jB | apply MC | (apply_assumption;done) | apply oD | apply mC | refine .bT inferInstance ‹_› ?_ | refine .ct ‹_› ?_ | refine .cf ‹_› ?_ | apply XF)))⟩
instance{a0 a1}:KA (Gw a0 a1) (Ht a0 a1):=⟨by unfold Ht Gw;((try simp only[CA,UB,List.nil_append]);repeat' ((with_reducible first | intro _ | exact .r0 | apply pB | apply RB | apply jB)))⟩
instance{a0 a1 a2 a3 a4}:KA (Ec a0 a1 a2 a3 a4) (Er a0 a1 a2 a3 a4):=⟨by unfold Er Ec;((try simp only[UB,DS]);repeat' (first | (with_reducible first | intro _ | exact .r0 | apply pB | apply kC | refine .bd inferInstance ?_ | apply RB | apply jB | apply MC | (apply_assumption;done) | apply mC | apply XF) | (refine .s ?_;rfl) | (refine .kk ‹_› ?_;grind [oA,NA,eA])))⟩
instance{a0 a1 a2 a3 a4 a5}:KA (Fi a0 a1 a2 a3 a4 a5) (Fz a0 a1 a2 a3 a4 a5):=⟨by unfold Fz Fi;(repeat' ((with_reducible first | intro _ | exact .r0 | refine .bd inferInstance ?_ | apply jB | apply MC | (apply_assumption;done))))⟩
instance{a0 a1 a2}:KA (Fh a0 a1 a2) (Fy a0 a1 a2):=⟨by unfold Fy Fh;(repeat' ((with_reducible first | intro _ | exact .r0 | refine .bd inferInstance ?_ | apply jB | apply MC | (apply_assumption;done))))⟩
instance{a0}:KA (Fn a0) (Gc a0):=⟨by unfold Gc Fn;((try simp only[nA,sC]);repeat' ((with_reducible first | intro _ | exact .r0 | apply pB | apply kC | refine .bd inferInstance ?_ | apply jB | apply MC | (apply_assumption;done))))⟩
instance{a0}:KA (Hb a0) (Et a0):=⟨by unfold Et Hb;((try simp only[nA,FD]);repeat' ((with_reducible first | intro _ | exact .r0 | apply pB | apply kC | refine .bd inferInstance ?_ | apply jB | apply MC | (apply_assumption;done))))⟩
instance{a0}:KA (Ce a0) (Ce a0):=⟨.r0⟩
instance{a0 a1}:KA (By a0 a1) (By a0 a1):=⟨.r0⟩
instance{a0 a1 a2}:KA (Gz a0 a1 a2) (Hw a0 a1 a2):=⟨by unfold Hw Gz;((try simp only[zfN,List.nil_append]);repeat' (first | (with_reducible first | intro _ | exact .r0 | apply pB | refine .bd inferInstance ?_ | apply RB | apply jB | apply MC | (apply_assumption;done) | apply mC | apply XF) | (refine .kk ‹_› ?_;grind [oA,NA,eA])))⟩
instance{a0}:KA (Cs a0) (Cs a0):=⟨.r0⟩
instance{a0 a1}:KA (Ha a0 a1) (Hx a0 a1):=⟨by unfold Hx Ha;((try simp only[CA,GE,List.nil_append]);repeat' ((with_reducible first | intro _ | exact .r0 | apply pB | apply RB | apply jB)))⟩
instance{a0 a1 a2 a3}:KA (Fk a0 a1 a2 a3) (Ga a0 a1 a2 a3):=⟨by unfold Ga Fk;(repeat' (first | (with_reducible first | intro _ | exact .r0 | refine .bd inferInstance ?_ | apply jB) | (refine .s ?_;grind [oA,NA,eA,QB,rC,List.length_eq_zero_iff])))⟩
instance:KA (Fl) (Kn):=⟨by unfold Kn Fl;(repeat' (first | with_reducible apply HG | dsimp only[cond_true,cond_false]));(refine Ag.lI (λx=>∃i:Nat,x=(λi:Nat=>((i:Int),(⟨-1,List.replicate i 0⟩:Ap))) i∧i≤32) ⟨0,by first | rfl | simp,by decide⟩ (λx k hx hk=>?_) _;obtain⟨i,hx,h2⟩:=hx;have hi:(i:Int)<32→iA .i64 (i:Int) 1=((i+1:Nat):Int):=λh=>(by rw[DA (by omega) (by omega)];omega);subst hx;refine .cr (λhc=> .gr λ_=>hk _ ⟨i+1,?_,?_⟩) λhc=>?_;(· simp only[B]at hc;simp[hi hc,List.replicate_succ']);(· simp only[B]at hc;omega);have he:i=32:=(by simp only[B]at hc;omega);subst he;try dsimp only);(repeat' ((refine .s ?_;grind [oA,NA,eA,QB,rC,List.length_eq_zero_iff])))⟩
instance{a0 a1}:KA (Bz a0 a1) (Cz a0 a1):=⟨by unfold Cz Bz;((try simp only[CA,List.nil_append]);repeat' ((with_reducible first | intro _ | exact .r0 | apply pB | refine .bd inferInstance ?_ | apply RB | apply jB | apply MC | (apply_assumption;done))))⟩
instance{a0 a1 a2}:KA (Ee a0 a1 a2) (Gb a0 a1 a2):=⟨by unfold Gb Ee;((try simp only[CA,List.nil_append]);repeat' (first | (with_reducible first | intro _ | exact .r0 | apply pB | refine .bd inferInstance ?_ | apply RB | apply jB | apply MC | (apply_assumption;done) | apply mC | apply XF) | (refine .kk ‹_› ?_;grind [oA,NA,eA])))⟩
instance{a0 a1 a2 a3}:KA (Fm a0 a1 a2 a3) (Es a0 a1 a2 a3):=⟨by unfold Es Fm;((try simp only[CA,TC,List.nil_append]);repeat' (first | (with_reducible first | intro _ | exact .r0 | apply pB | refine .bd inferInstance ?_ | apply RB | apply jB | apply MC | (apply_assumption;done) | apply oD | apply mC | refine .bT inferInstance ‹_› ?_ | apply XF) | (refine .kk ‹_› ?_;grind [oA,NA,eA])))⟩
instance{a0 a1}:KA (Bi a0 a1) (Bi a0 a1):=⟨.r0⟩
instance{a0 a1 a2}:KA (Di a0 a1 a2) (Do a0 a1 a2):=⟨by unfold Do Di;((try simp only[CA,List.nil_append]);repeat' ((with_reducible first | intro _ | exact .r0 | apply pB | apply RB)))⟩
instance{a0}:KA (Bh a0) (Bh a0):=⟨.r0⟩
instance{a0 a1 a2 a3 a4}:KA (Ed a0 a1 a2 a3 a4) (Cy a0 a1 a2 a3 a4):=⟨by unfold Cy Ed;((try simp only[UB,DS]);repeat' (first | (with_reducible first | intro _ | exact .r0 | apply pB | apply kC | apply RB | apply jB | apply MC | (apply_assumption;done) | apply mC | refine .ct ‹_› ?_ | refine .cf ‹_› ?_ | apply XF) | (refine .s ?_;rfl) | (refine .kk ‹_› ?_;grind [oA,NA,eA])))⟩
instance{a0 a1}:KA (Cq a0 a1) (Cq a0 a1):=⟨.r0⟩
instance{a0 a1}:KA (Bp a0 a1) (Bp a0 a1):=⟨.r0⟩
instance{a0 a1}:KA (Bn a0 a1) (Bn a0 a1):=⟨.r0⟩
instance{a0 a1 a2 a3}:KA (Gx a0 a1 a2 a3) (Hu a0 a1 a2 a3):=⟨by unfold Hu Gx;((try simp only[TC]);repeat' (first | (with_reducible first | intro _ | exact .r0 | apply pB | refine .bd inferInstance ?_ | apply jB | apply MC | (apply_assumption;done) | apply mC | apply XF) | (refine .kk ‹_› ?_;grind [oA,NA,eA])))⟩
instance{a0 a1 a2 a3 a4 a5}:KA (Fj a0 a1 a2 a3 a4 a5) (Dn a0 a1 a2 a3 a4 a5):=⟨by unfold Dn Fj;(repeat' ((with_reducible first | intro _ | exact .r0 | refine .bd inferInstance ?_ | apply jB | apply MC | (apply_assumption;done))))⟩
instance{a0 a1}:KA (Gy a0 a1) (Hv a0 a1):=⟨by unfold Hv Gy;((try simp only[TC]);repeat' ((with_reducible first | intro _ | exact .r0 | apply pB | apply jB | apply MC | (apply_assumption;done) | apply oD | apply mC | refine .bT inferInstance ‹_› ?_ | refine .ct ‹_› ?_ | refine .cf ‹_› ?_ | apply XF)))⟩
instance{a0 a1}:KA (Bq a0 a1) (Cj a0 a1):=⟨by unfold Cj Bq Hc;have h1:=@PA a0.Top 1024;have h2:=@DA (wA .i64 a0.Top 1024) 1;((try simp only[NF,bc,bs]);repeat' (first | (with_reducible first | intro _ | apply ZE | apply cF | exact .r0 | apply pB | apply kC | apply jB) | (with_reducible refine Ag.cr (λ_=>?_) (λ_=>?_)<;>try (exfalso;grind (splits:=3) [oA,NA,eA,bD];done)) | with_reducible apply mC | (refine .s ?_;grind [oA,NA,eA,QB,rC,List.length_eq_zero_iff,bD])))⟩
instance{a0 a1}:KA (Cf a0 a1) (Da a0 a1):=⟨by exact zsw⟩
instance{a0 a1 a2}:KA (Hd a0 a1 a2) (Hy a0 a1 a2):=⟨by unfold Hy Hd;(repeat' ((with_reducible first | intro _ | exact .r0 | refine .bd inferInstance ?_ | apply jB | apply MC | (apply_assumption;done))))⟩
instance{a0 a1 a2}:KA (Ct a0 a1 a2) (Eu a0 a1 a2):=⟨by unfold Eu Ct;((try simp only[nA]);repeat' (first | (with_reducible first | intro _ | apply ZE | apply cF | exact .r0 | apply pB | apply kC | refine .bd inferInstance ?_ | apply jB | refine .ct ‹_› ?_ | refine .cf ‹_› ?_) | (with_reducible refine Ag.cr (λ_=>?_) (λ_=>?_)<;>try (exfalso;grind (splits:=3) [oA,NA,eA, →zrH];done)) | (with_reducible first | apply oD | apply mC | refine .bT inferInstance ‹_› ?_ | apply BE)))⟩
instance{a0 a1 a2}:KA (Ef a0 a1 a2) (Db a0 a1 a2):=⟨by exact zrv (λ_ _ _=>KA.h) (λ_ _=>KA.h)⟩
instance{a0 a1}:KA (Fo a0 a1) (Gd a0 a1):=⟨by unfold Gd Fo;((try simp only[sC,CA,List.nil_append]);repeat' ((with_reducible first | intro _ | exact .r0 | apply pB | apply kC | apply RB | apply jB | apply MC | (apply_assumption;done))))⟩
instance{a0 a1 a2 a3}:KA (Eg a0 a1 a2 a3) (Gf a0 a1 a2 a3):=⟨by exact ztB⟩
instance{a0 a1 a2 a3}:KA (Fp a0 a1 a2 a3) (Ge a0 a1 a2 a3):=⟨by exact zsk⟩
instance{a0}:KA (He a0) (Hz a0):=⟨by unfold Hz He;((try simp only[nA,GE,sC]);repeat' ((with_reducible first | intro _ | exact .r0 | apply pB | apply kC | refine .bd inferInstance ?_ | apply jB | apply MC | (apply_assumption;done))))⟩
instance{a0 a1 a2}:KA (Hf a0 a1 a2) (Ia a0 a1 a2):=⟨by unfold Ia Hf;have h1:=@PA a0.Cur.N 1;((try simp only[nA,sC,BB]);repeat' (first | (with_reducible first | intro _ | apply ZE | apply cF | exact .r0 | apply pB | apply kC | refine .bd inferInstance ?_ | apply jB) | (with_reducible refine Ag.cr (λ_=>?_) (λ_=>?_)<;>try (exfalso;grind (splits:=3) [oA,NA,eA,TD];done)) | (with_reducible first | apply oD | apply mC | apply BE) | (refine .s ?_;grind [oA,NA,eA,QB,rC,List.length_eq_zero_iff,TD])))⟩
instance{a0 a1 a2 a3 a4}:KA (Hg a0 a1 a2 a3 a4) (Gg a0 a1 a2 a3 a4):=⟨by unfold Gg Hg Kp;((try simp only[nA,CA,List.nil_append,ba,bc,bs,FD]);repeat' (first | (with_reducible first | intro _ | exact .r0 | apply pB | apply kC | refine .bd inferInstance ?_ | apply yD | apply RB | apply jB | apply MC | (apply_assumption;done) | apply zgi | (apply yM;simp only[ba,bc,bs,bn]) | apply oD | apply mC | apply HG | refine .bT inferInstance ‹_› ?_ | refine .ct ‹_› ?_ | refine .cf ‹_› ?_ | apply BE | apply XF) | (refine .s ?_;grind [oA,NA,eA,QB,rC,List.length_eq_zero_iff])))⟩
instance{a0 a1 a2 a3}:KA (Hi a0 a1 a2 a3) (Ib a0 a1 a2 a3):=⟨by
 unfold Ib Hi
 (try simp only[nA,GC,zE,vE,List.nil_append,ED,BB,CA,ba])
 refine .pl λ_=> .pr λ_=> .jBl (.jBr (.pl λ_=> .pr λ_=> .cc (λ_=> .r0) λhs=> .cc (λ_=> .r0) λhn=> .cc (λ_=> .r0) λha=> .bd inferInstance λcr hcr _=> .bd inferInstance λfr IW _=>?_));refine Ag.hj (λk k'=>(∀y z,y.1=z.1→y.2.1=z.2.1→y.2.2=z.2.2.1→Ag (k y) (k' z))∧(∀y,y.1=[]→Ag (k y) (some (y.2.2,[],y.2.1)))) ⟨?_,?_⟩ λk k' hk=>?_
 ·rintro⟨o,n,s⟩ ⟨o',n',s',d⟩ e1 e2 e3;cases e1;cases e2;cases e3;exact zv2 (λ_ _=>KA.h) (λ_=>KA.h) (λ_ _ _=>KA.h)
 ·rintro⟨o,n,s⟩ e1;exact .jl (zux e1 .r0)
 obtain⟨BZ,wZ⟩:=hk;refine .ce (by rfl) (λ_=>wZ _ rfl) λhf=>?_;have S:=MH.1 (by simpa using hs)
 have hD:a0.D.N≤10000:=by
  have:=S.dice;simp only[BC,Bool.and_eq_true,pC]at this;omega
 have hT:=S.tab;have hfo:=zrz IW (by simpa using hf);have N6:(iE a0.D).2.length≤100:=by have:=zc7 a0.D;omega
 generalize fr.1=f at *;cases h1:(f.Kind==1)
 ·cases h3:(f.Kind==3)
  ·cases h4:gC f.Kind
   ·simp only[aA,cond_true,cond_false];exact BZ _ _ rfl rfl rfl
   ·simp only[aA,cond_true,cond_false];unfold Kq
    (try simp only[nA,GC,zE,vE,List.nil_append,ED,BB,CA,ba])
    simp only[ba,bc,bs,bn,aA];refine .pl λ_=> .pr λ_=> .cc (λ_=>wZ _ rfl) λhn=> .bd inferInstance λe he _=> .cc (λ_=>wZ _ rfl) λhd=> .pl λ_=> .pr λ_=> .bd inferInstance λm _ _=> .cc (λ_=>?_) λ_=>?_
    ·have hz:([]:List UInt8).length≤100:=by decide
     ((try simp only[nA,GC,zE,vE,List.nil_append,ED,BB,CA,ba]);repeat' (first | (with_reducible first | intro _ | apply pB | apply kC | refine .bd inferInstance ?_ | apply yD | apply RB | apply jB | refine .ct ‹_› ?_ | refine .cf ‹_› ?_) | (with_reducible refine Ag.cr (λ_=>?_) (λ_=>?_)<;>try (exfalso;grind (splits:=3) [oA,NA,eA, →AS];done)) | (with_reducible first | (apply yM;simp only[ba,bc,bs,bn]) | apply oD | apply mC | refine .bT inferInstance ‹_› ?_ | refine .bR ‹_› ?_ | refine .bI ‹_› ?_ | apply BE) | (exfalso;grind [oA,NA,eA, →AS])))
     all_goals first | exact wZ _ rfl | (refine BZ _ _ ?_ ?_ ?_<;>first | rfl | grind [→AS])
    ·((try simp only[nA,GC,zE,vE,List.nil_append,ED,BB,CA,ba]);repeat' (first | (with_reducible first | intro _ | apply pB | apply kC | refine .bd inferInstance ?_ | apply yD | apply RB | apply jB | refine .ct ‹_› ?_ | refine .cf ‹_› ?_) | (with_reducible refine Ag.cr (λ_=>?_) (λ_=>?_)<;>try (exfalso;grind (splits:=3) [oA,NA,eA, →AS];done)) | (with_reducible first | (apply yM;simp only[ba,bc,bs,bn]) | apply oD | apply mC | refine .bT inferInstance ‹_› ?_ | refine .bR ‹_› ?_ | refine .bI ‹_› ?_ | apply BE) | (exfalso;grind [oA,NA,eA, →AS])))
     all_goals first | exact wZ _ rfl | (refine BZ _ _ ?_ ?_ ?_<;>first | rfl | grind [→AS])
  ·simp only[aA,cond_true,cond_false];unfold Ko
   (try simp only[nA,GC,zE,vE,List.nil_append,ED,BB,CA,ba])
   refine .jbl ?_;simp only[ba,bc,bs,bn,aA];refine .bd inferInstance λj _ _=> .cc (λ_=>wZ _ rfl) λhj=> .cc (λ_=>wZ _ rfl) λhid=> .bd inferInstance λp hp _=> .bd inferInstance λok _ _=> .cc (λ_=>wZ _ rfl) λ_=> .pl λ_=> .pr λ_=> .cc (λhn=>?_) λhn=>?_
   ·refine .bd inferInstance λp2 _ _=> .bd inferInstance λs zX _=> .bd inferInstance λt ht _=> .cc (λ_=>wZ _ rfl) λh0=>?_;have h0:t.2=0:=by simpa using h0
    have e1:=zr3 ht h0;rw[zsa zX (zeQ ht h0).2.2.2]at e1;have e2:=zr5 ht h0;simp only[e1]
    ((try simp only[nA,GC,zE,vE,List.nil_append,ED,BB,CA,ba]);repeat' (first | (with_reducible first | intro _ | apply pB | apply kC | refine .bd inferInstance ?_ | apply yD | apply RB | apply jB | refine .ct ‹_› ?_ | refine .cf ‹_› ?_) | (with_reducible refine Ag.cr (λ_=>?_) (λ_=>?_)<;>try (exfalso;grind (splits:=3) [oA,NA,eA, →GS];done)) | (with_reducible first | (apply yM;simp only[ba,bc,bs,bn]) | apply oD | apply mC | refine .bT inferInstance ‹_› ?_ | refine .bR ‹_› ?_ | refine .bI ‹_› ?_ | apply BE) | (exfalso;grind [oA,NA,eA, →GS])))
    all_goals first | exact wZ _ rfl | (refine BZ _ _ ?_ ?_ ?_<;>first | rfl | grind [→GS])
   ·((try simp only[nA,GC,zE,vE,List.nil_append,ED,BB,CA,ba]);repeat' (first | (with_reducible first | intro _ | apply pB | apply kC | refine .bd inferInstance ?_ | apply yD | apply RB | apply jB | refine .ct ‹_› ?_ | refine .cf ‹_› ?_) | (with_reducible refine Ag.cr (λ_=>?_) (λ_=>?_)<;>try (exfalso;grind (splits:=3) [oA,NA,eA, →GS];done)) | (with_reducible first | (apply yM;simp only[ba,bc,bs,bn]) | apply oD | apply mC | refine .bT inferInstance ‹_› ?_ | refine .bR ‹_› ?_ | refine .bI ‹_› ?_ | apply BE) | (exfalso;grind [oA,NA,eA, →GS])))
    all_goals first | exact wZ _ rfl | (refine BZ _ _ ?_ ?_ ?_<;>first | rfl | grind [→GS])
 ·simp only[aA,cond_true,cond_false];unfold Km
  ((try simp only[nA,GC,zE,vE,List.nil_append,ED,BB,CA,ba]);repeat' (first | (with_reducible first | intro _ | apply pB | apply kC | refine .bd inferInstance ?_ | apply yD | apply RB | apply jB | refine .ct ‹_› ?_ | refine .cf ‹_› ?_) | (with_reducible refine Ag.cr (λ_=>?_) (λ_=>?_)<;>try (exfalso;grind (splits:=3) [oA,NA,eA];done)) | (with_reducible first | (apply yM;simp only[ba,bc,bs,bn]) | apply oD | apply mC | refine .bT inferInstance ‹_› ?_ | refine .bR ‹_› ?_ | refine .bI ‹_› ?_ | apply BE) | (exfalso;grind [oA,NA,eA])))
  all_goals first
   | exact wZ _ rfl
   | exact BZ _ _ rfl rfl rfl
   | skip⟩
instance{a0}:KA (Fc a0) (Ic a0):=⟨by unfold Ic Fc;((try simp only);repeat' ((with_reducible first | intro _ | exact .r0 | refine .bd inferInstance ?_ | apply yD | apply RB | apply jB | apply jL | apply MC | (apply_assumption;done) | apply oD | refine .bT inferInstance ‹_› ?_ | refine .bR ‹_› ?_)))⟩
instance{a0 a1 a2}:KA (Fq a0 a1 a2) (Ev a0 a1 a2):=⟨by unfold Ev Fq;((try simp only[CA,TC,nA]);repeat' (first | (with_reducible first | intro _ | apply ZE | apply cF | exact .r0 | apply pB | apply kC | refine .bd inferInstance ?_ | apply jB) | (with_reducible refine Ag.cr (λ_=>?_) (λ_=>?_)<;>try (exfalso;grind (splits:=3) [oA,NA,eA,sV];done)) | (with_reducible first | apply oD | apply mC | apply BE) | (refine .s ?_;grind [oA,NA,eA,QB,rC,List.length_eq_zero_iff,sV])))⟩
instance{a0 a1 a2}:KA (Ei a0 a1 a2) (Ie a0 a1 a2):=⟨by unfold Ie Ei Kr Ks;have hc:=λh=>(@zwp a0 h);((try simp only[nA,CA,ba,bc,bs,BB,ID,TC,List.nil_append]);repeat' (first | (with_reducible first | intro _ | apply ZE | apply cF | exact .r0 | apply pB | apply kC | refine .bd inferInstance ?_ | apply yD | apply RB | apply jB | refine .ct ‹_› ?_ | refine .cf ‹_› ?_) | (with_reducible refine Ag.cr (λ_=>?_) (λ_=>?_)<;>try (exfalso;grind (splits:=3) [oA,NA,eA, →zeG, →ziP, →ziS];done)) | (with_reducible first | (apply yM;simp only[ba,bc,bs,bn]) | apply oD | apply mC | apply HG | refine .bT inferInstance ‹_› ?_ | apply BE) | (refine .s ?_;grind [oA,NA,eA,QB,rC,List.length_eq_zero_iff, →zeG, →ziP, →ziS])))⟩
instance{a0 a1}:KA (Gn a0 a1) (Ds a0 a1):=⟨by unfold Ds Gn;((try simp only[nA,CA,FD,List.nil_append]);repeat' (first | (with_reducible first | intro _ | apply ZE | apply cF | exact .r0 | apply pB | apply kC | refine .bd inferInstance ?_ | apply RB | apply jB) | (refine .s ?_;grind [oA,NA,eA,QB,rC,List.length_eq_zero_iff, →zeG,mG,CM])))⟩
instance{a0 a1 a2 a3}:KA (Gp a0 a1 a2 a3) (Sg a0 a1 a2 a3):=⟨by unfold Sg Gp;have h1:=λh=>@zlL a0 h;((try simp only[nA,GC]);repeat' (first | (with_reducible first | intro _ | apply ZE | apply cF | exact .r0 | apply pB | apply kC | refine .bd inferInstance ?_ | apply RB | apply jB) | (with_reducible refine Ag.cr (λ_=>?_) (λ_=>?_)<;>try (exfalso;grind (splits:=3) [oA,NA,eA, →zlq, →zey];done)) | (with_reducible first | apply oD | apply mC | apply HG | refine .bI ‹_› ?_ | apply BE) | (refine .s ?_;grind [oA,NA,eA,QB,rC,List.length_eq_zero_iff, →zlq, →zey])))⟩
instance{a0}:KA (Hj a0) (Sh a0):=⟨by unfold Sh Hj;((try simp only[nA,zE,vE,CA,GC,List.nil_append]);repeat' ((with_reducible first | intro _ | exact .r0 | apply pB | apply kC | apply RB | apply jB | apply MC | (apply_assumption;done))))⟩
instance{a0}:KA (Cd a0) (Ew a0):=⟨by unfold Ew Cd;((try simp only[FD,nA,CA,List.nil_append]);repeat' ((with_reducible first | intro _ | exact .r0 | apply pB | apply kC | apply RB | apply jB)))⟩
instance{a0 a1}:KA (Hl a0 a1) (Si a0 a1):=⟨by unfold Si Hl Ch Fe;have h1:=λh=>@zlL a0 h;((try simp only[nA,GC,CA,ba,bs,List.nil_append,bc,bn]);repeat' (first | (with_reducible first | intro _ | apply ZE | apply cF | exact .r0 | apply pB | apply kC | refine .bd inferInstance ?_ | apply RB | apply jB) | (with_reducible refine Ag.cr (λ_=>?_) (λ_=>?_)<;>try (exfalso;grind (splits:=3) [oA,NA,eA, →zla];done)) | (with_reducible first | apply oD | apply mC | refine .bR ‹_› ?_ | refine .bI ‹_› ?_ | apply BE) | (refine .s ?_;grind [oA,NA,eA,QB,rC,List.length_eq_zero_iff, →zla])))⟩
instance{a0}:KA (Hm a0) (Sj a0):=⟨by unfold Sj Hm;((try simp only[sC,CA,List.nil_append]);repeat' ((with_reducible first | intro _ | exact .r0 | apply pB | apply kC | apply yD | apply RB | apply jB | apply MC | (apply_assumption;done))))⟩
instance{a0 a1}:KA (Bv a0 a1) (Bv a0 a1):=⟨.r0⟩
instance{a0 a1}:KA (Bw a0 a1) (Dc a0 a1):=⟨by unfold Dc Bw Dp;((try simp only[nA,ba,bx,qH]);repeat' ((with_reducible first | intro _ | exact .r0 | apply pB | apply kC | refine .bd inferInstance ?_ | apply yD | apply RB | apply jB | apply jL | apply MC | (apply_assumption;done) | refine .bR ‹_› ?_)))⟩
instance{a0 a1}:KA (Gr a0 a1) (Ig a0 a1):=⟨by unfold Ig Gr;((try simp only[nA,FD]);repeat' ((with_reducible first | intro _ | exact .r0 | apply pB | apply kC | refine .bd inferInstance ?_ | apply jB | apply MC | (apply_assumption;done))))⟩
instance{a0 a1}:KA (Gs a0 a1) (Ih a0 a1):=⟨by unfold Ih Gs;((try simp only[nA,iG]);repeat' ((with_reducible first | intro _ | exact .r0 | apply pB | apply kC | refine .bd inferInstance ?_ | apply yD | apply RB | apply jB | apply jL | apply MC | (apply_assumption;done))))⟩
instance{a0 a1}:KA (Gt a0 a1) (Ii a0 a1):=⟨by unfold Ii Gt Ch Fe;((try simp only[nA,ED,CA,ba,bs,GC,List.nil_append,bc,bn]);repeat' ((with_reducible first | intro _ | exact .r0 | apply pB | apply kC | refine .bd inferInstance ?_ | apply yD | apply RB | apply jB | apply jL | apply MC | (apply_assumption;done) | apply oD | apply mC | refine .bR ‹_› ?_ | refine .ct ‹_› ?_ | refine .cf ‹_› ?_)))⟩
instance{a0 a1}:KA (Co a0 a1) (Co a0 a1):=⟨.r0⟩
instance{a0 a1}:KA (Cp a0 a1) (Dt a0 a1):=⟨by unfold Dt Cp;((try simp only);repeat' (first | (with_reducible first | intro _ | exact .r0 | refine .bd inferInstance ?_ | apply jB | apply HG | apply XF) | (refine .s ?_;grind [oA,NA,eA,QB,rC,List.length_eq_zero_iff,UD])))⟩
instance{a0 a1}:KA (Gq a0 a1) (If a0 a1):=⟨by unfold If Gq Kt Dm Ch Dg;((try simp only[nA,CA,ba,bs,bc,ID,DI,List.nil_append]);repeat' (first | (with_reducible first | intro _ | apply ZE | apply cF | exact .r0 | apply pB | apply kC | refine .bd inferInstance ?_ | apply RB | apply jB | refine .ct ‹_› ?_ | refine .cf ‹_› ?_) | (with_reducible refine Ag.cr (λ_=>?_) (λ_=>?_)<;>try (exfalso;grind (splits:=3) [oA,NA,eA,zg3, →zir,aC];done)) | (with_reducible first | (apply yM;simp only[ba,bc,bs,bn]) | apply oD | apply mC | apply HG | refine .bT inferInstance ‹_› ?_ | apply BE) | (refine .s ?_;grind [oA,NA,eA,QB,rC,List.length_eq_zero_iff,zg3, →zir,aC])))⟩
instance{a0 a1}:KA (Fs a0 a1) (Sk a0 a1):=⟨by unfold Sk Fs;((try simp only[CA,OJ]);repeat' ((with_reducible first | intro _ | exact .r0 | apply pB | apply kC)))⟩
end Go.D
namespace Go.D
def Ag.li{α σ:Type}(I:σ→Prop){f f':σ→(σ→Option α)→Option α}{x0:σ}(h0:I x0)(e:∀x k k',I x→(∀y,I y→Ag (k y) (k' y))→Ag (f x k) (f' x k')):∀n,Ag (qA n f x0) (qA n f' x0):=by
 intro n;induction n generalizing x0 with
 | zero=>exact nl
 | succ n ih=>exact e _ _ _ h0 λ_ h=>ih h
def zvk{k:Int}:Ag (Kl k) (Df k):=by
 by_cases h:0≤k∧k≤10
 ·have:k=0∨k=1∨k=2∨k=3∨k=4∨k=5∨k=6∨k=7∨k=8∨k=9∨k=10:=by omega
  rcases this with rfl | rfl | rfl | rfl | rfl | rfl | rfl | rfl | rfl | rfl | rfl<;>exact Ag.r0
 ·unfold Df;refine .cr (λhc=>absurd ?_ h) λ_=> .nr;simp only[B,List.length_cons,List.length_nil]at hc;omega
instance{k:Int}:KA (Df k) (Kl k):=⟨zvk⟩
end Go.D
namespace Go.D
set_option maxHeartbeats 2000000
def zfy{α:Type}{l:List α}{m:Nat}{j:Int}(h:m+j.toNat<l.length)(hj:0≤j):kA (List.take ((l.length:Int) - (m:Int)).toNat (List.drop m l)) j=l[m+j.toNat]?:=by
 unfold kA;rw[if_pos hj,List.getElem?_take,if_pos (by omega),List.getElem?_drop]
def Ag.lb{α β σ:Type}{K:α→Option β}{f:σ→(σ→Option α)→Option α}{f':σ→(σ→Option β)→Option β}{x0:σ}(e:∀x k k',(∀y,Ag (Option.bind (k y) K) (k' y))→Ag (Option.bind (f x k) K) (f' x k')):∀n,Ag (Option.bind (qA n f x0) K) (qA n f' x0):=by
 intro n;induction n generalizing x0 with
 | zero=>exact nl
 | succ n ih=>exact e _ _ _ λ_=>ih
def zuX{a0 a1 a2}:Ag (Ow a0 a1 a2) (Fr a0 a1 a2):=by
 unfold Ow Fr
 (try simp only[CA,List.nil_append,mJ,GE])
 refine .cc (λ_=> .r0) λ_=> .jj (λy=>?_) λk k' hk=>Ag.li (λx=>x.1.length≤8) (by decide) (λx k4 k4' hx TV=>?_) _
 ·(repeat' ((with_reducible first | intro _ | exact .r0 | apply pB | refine .bd inferInstance ?_ | apply yD | apply RB | apply jB)))
 ·have hi:=λr:Int=>@PA (x.1.length:Int) r;refine .cc (λ_=> .bd inferInstance λe _ _=> .bl λr6 h6=> .jBl (.jBr (.bd inferInstance λso hso _=> .cc (λ_=> .r0) λhs=> .bT inferInstance h6 λ_=> .ce ?_ (λ_=> .r0) λhl=>?_))) λ_=>hk _
  ·obtain⟨q,hq,hb⟩:=zhi (a0:=e.Kind);cases hq.symm.trans h6;rw[hi r6 (by omega) (by omega)];exact decide_eq_decide.2 (by omega)
  ·obtain⟨q,hq,hb⟩:=zpX (a0:=e);cases hq.symm.trans hso;obtain⟨q,hq,hc⟩:=zhi (a0:=e.Kind);cases hq.symm.trans h6;have hb:=hb (by simpa using hs);have NV:r6≤(x.1.length:Int):=by simp only[B]at hl;rw[hi r6 (by omega) (by omega)]at hl;omega
   have hi:=hi r6 (by omega) (by omega);obtain⟨m,hm⟩:∃m:Nat,(x.1.length:Int) - r6=m:=⟨_,(Int.toNat_of_nonneg (by omega)).symm⟩;rw[hm]at hi;refine .gl λ_=> .bT inferInstance h6 λ_=>?_;have ZX:1≤r6→_:=λh=>zfy (l:=x.1) (m:=m) (j:=0) (by omega) (by omega);have Z1:2≤r6→_:=λh=>zfy (l:=x.1) (m:=m) (j:=1) (by omega) (by omega);have GZ:3≤r6→_:=λh=>zfy (l:=x.1) (m:=m) (j:=2) (by omega) (by omega);have e1:iA .i64 (m:Int) 1=((m+1:Nat):Int):=DA (by omega) (by omega);have e2:iA .i64 (m:Int) 2=((m+2:Nat):Int):=DA (by omega) (by omega)
   have h8:decide (((m+1:Nat):Int)>8)=((m:Int)==8):=by
    rw[Bool.eq_iff_iff,decide_eq_true_iff,beq_iff_eq];omega
   have mW:∀(b:List UInt8) (i:Int),((m:Int)==8)=false→Ag (k4 (List.take m x.1++[b],i)) (k4' (List.take m x.1++[b],i)):=λb i h=>TV _ (by have h:=beq_eq_false_iff_ne.1 h;simp only[List.length_append,List.length_take,List.length_cons,List.length_nil];omega);have:e.Kind=1∨e.Kind=2∨e.Kind=3∨e.Kind=4∨e.Kind=5∨e.Kind=6∨e.Kind=7∨e.Kind=8∨e.Kind=9∨e.Kind=10:=by omega
   unfold Sf
   rcases this with h | h | h | h | h | h | h | h | h | h
   all_goals (try have ZX:=ZX (by omega))
   all_goals (try have Z1:=Z1 (by omega))
   all_goals (try have GZ:=GZ (by omega))
   all_goals (simp only[h,hi,ZX,Z1,GZ,aA,beq_self_eq_true,cond_true,cond_false,Int.reduceBEq,ba,bc,bs,bn,h8,e1,e2,List.drop_zero,Int.sub_zero,Int.toNat_natCast,Int.reduceToNat,Nat.add_zero,mJ,zfN,GE,List.nil_append,Bool.not_true,Bool.not_false])
   rotate_left 5
   ·refine .gr λ_=> .bd inferInstance λu hu _=> .gr λ_=> .bd inferInstance λv hv _=> .cl (λh1=> .cf (by simp only[bne,h1];rfl) ?_) λh1=> .ct (by simp only[bne,h1];rfl) .r0;simp only[hu,hv,bs,Se,aA];refine .lb (λx k k' QW=>?_) _;simp only[ba,bc,bs,bn]
    repeat' (first | exact mW _ _ ‹_› | exact QW _ | (with_reducible first | intro _ | exact .r0 | refine .bd inferInstance ?_ | apply yD | apply RB | apply jB) | fail | (fail) | dsimp only[cond_true,cond_false])
   all_goals (repeat' (first | exact mW _ _ ‹_› | (with_reducible first | intro _ | exact .r0 | apply pB | apply kC | refine .bd inferInstance ?_ | apply yD | apply RB | apply jB) | (with_reducible first | intro _ | apply oD | apply mC | refine .bR ‹_› ?_ | refine .ct ‹_› ?_ | refine .cf ‹_› ?_ | apply BE | apply XF) | ((exfalso;grind [oA,NA,eA])) | dsimp only[cond_true,cond_false]))
instance{a0:List Bc}{a1:List Am}{a2:List (List UInt8)}:KA (Fr a0 a1 a2) (Ow a0 a1 a2):=⟨zuX⟩
end Go.D
namespace Go.D
set_option maxHeartbeats 1000000
def Ag.lr{α σ τ:Type}(R:σ→τ→Prop){f:σ→(σ→Option α)→Option α}{f':τ→(τ→Option α)→Option α}{x0:σ}{y0:τ}(h0:R x0 y0)(e:∀x y k k',R x y→(∀x y,R x y→Ag (k x) (k' y))→Ag (f x k) (f' y k')):∀n,Ag (qA n f x0) (qA n f' y0):=by
 intro n;induction n generalizing x0 y0 with
 | zero=>exact nl
 | succ n ih=>exact e _ _ _ _ h0 λ_ _ h=>ih h
def zvu{a0 a1 a2 a3}(ha:oB a0=true)(ht:eA a1 0 2=true)(hf:MA a2=true):Ag (Option.bind (Gh a0 a1 a2 a3) λr=>some (r.2,r.1)) (Ej a0 a1 a2 a3):=by
 unfold Gh Ej
 (try simp only[nA,bE,ba,bc,bs,bn])
 simp only[aA,ha,ht,hf,Bool.not_true,cond_false,cond_true]
 ((try simp only[nA,bE,ba,bc,bs,bn]);repeat' (first | (with_reducible first | intro _ | exact .r0 | apply pB | refine .bd inferInstance ?_ | apply yD | apply RB | apply jB | apply mC | refine .bR ‹_› ?_ | apply BE | apply XF) | (refine .s ?_;grind [oA,NA,eA,QB,rC,List.length_eq_zero_iff])))
def zvo{a0}(ha:oB a0=true)(ht:(a0.Now==1000000)=false):Ag (Option.bind (Du a0) λr=>some (r.2,r.1)) (Ea a0):=by
 unfold Du Ea
 (try simp only[nA,bE,ba,bc,bn,bs])
 refine .pl λ_=>?_;simp only[aA,ha,ht,ba];refine .pl λ_=>?_;have hc:(a0.Clients.length:Int)=2:=by rw[(vF.1 ha).cl];rfl
 simp only[Bool.not_true,cond_false,hc];refine .lb (λx k k' hk=>?_) _
 (try simp only[nA,bE,ba,bc,bn,bs])
 (repeat' ((with_reducible first | intro _ | exact .r0 | refine .bd inferInstance ?_ | apply yD | apply RB | apply jB | (apply_assumption;done))))
def zwh{l:List Am}{x:Am}:Pc (Ij l x) λr=>r=cond (WD (l++[x])) (l++[x]) l:=by
 unfold Ij
 (try simp only[List.nil_append,nA])
 refine .g λ_=> .g λ_=> .p λ_=> .c (λh=> .p λ_=> .s ?_) λh=> .s ?_
 ·rw[show WD (l++[x])=false by simpa using h];rfl
 ·rw[show WD (l++[x])=true by simpa using h];rfl
def zjl{l:List Am}{x:Am}(hl:WD l=true)(hx:LC x=true):WD (l++[x])=decide ((l.length:Int)<90):=by
 simp only[WD,Bool.and_eq_true,Bool.not_eq_true',decide_eq_true_eq,List.any_append,List.any_cons,List.any_nil,hx]at hl⊢;rw[List.length_append,List.length_singleton];rw[hl.1];simp only[Bool.not_true,Bool.or_false,Bool.not_false,Bool.true_and];exact decide_eq_decide.2 (by omega)
def ztr{α:Type}{l:List α}{i:Int}{e:α}(h:kA l i=some e):e∈l:=by
 unfold kA at h;split at h
 ·exact List.mem_of_getElem? h
 ·cases h
def zv9{w:Ab}{l:List Am}{ns:List Ae}(hs:WD w.Seen=true)(hl:∀x∈l,LC x=true):Ag (Ck ⟨w.Now,w.Clients,w.S,w.D,w.Seen,w.Known,w.Notes++ns⟩ l) (Bm w l ns):=by
 unfold Ck Bm
 (try simp only[nA])
 simp only[aA];refine .pl λ_=>Ag.lr (λx y=>x.1=y.1∧WD y.2.Seen=true∧x.2=⟨y.2.Now,y.2.Clients,y.2.S,y.2.D,y.2.Seen,y.2.Known,w.Notes++ns⟩∧y.2.Notes=w.Notes) ⟨rfl,hs,rfl,rfl⟩ (λx y k k' ⟨h1,h2,h3,h4⟩ hk=>?_) _;rw[h1];refine .cc (λ_=> .bl λe he=> .bl λr hr=>?_) λ_=> .gr λ_=> .s (by rw[h3,h4]);have hr:=zwh r hr;have hm:=ztr he;have h5:x.2.Seen=y.2.Seen:=by rw[h3]
 rw[h5,zjl h2 (hl _ hm)]at hr;refine .cr (λh=>?_) λh=>hk _ _ ⟨rfl,h2,?_,h4⟩
 ·rw[h,cond_true]at hr;refine .bR he (.gr λ_=>hk _ _ ⟨rfl,?_,?_,h4⟩)
  ·show WD (y.2.Seen++[e])=true
   rw[zjl h2 (hl _ hm)];exact h
  ·rw[hr,h3]
 ·rw[h,cond_false]at hr;rw[hr,h3]
end Go.D

/-
 The two machines agree.
-/
import Derived.Test.YtmhnaidnoljllaaGreatX1
set_option linter.all false
namespace Go.D
set_option maxHeartbeats 2000000
instance{a0}:KA (Bh a0) (Be a0):=⟨by unfold Be Bh;simp only[zfI];((try simp only[FC,MU,JB,BS,zfn]);repeat' (first | (with_reducible first | intro _ | exact .r0 | apply eB | apply ZB | apply EB | apply cB | refine .ct ‹_› ?_ | refine .cf ‹_› ?_) | (with_reducible first | apply dC | apply EG) | (refine .s ?_;grind [mA,LA,eA,yB,iC,List.length_eq_zero_iff,zjT]) | dsimp only[cond_true,cond_false]));(refine Ag.lI (λx=>∃i:Nat,x=(λi:Nat=>([UInt8.ofNat (IntKind.u8.wrap a0.Kind).toNat]++[UInt8.ofNat (IntKind.u8.wrap a0.Id).toNat]++a0.Cn++List.replicate i 0,(i:Int))) i∧i≤20) ⟨0,by first | rfl | simp,by decide⟩ (λx k hx hk=>?_) _;obtain⟨i,hx,h2⟩:=hx;have hi:(i:Int)<20→gA .i64 (i:Int) 1=((i+1:Nat):Int):=λh=>(by rw[DA (by omega) (by omega)];omega);subst hx;refine .cr (λhc=> .gr λ_=>hk _ ⟨i+1,?_,?_⟩) λhc=>?_;(· simp only[B]at hc;simp[hi hc,List.replicate_succ']);(· simp only[B]at hc;omega);have he:i=20:=(by simp only[B]at hc;omega);subst he;try dsimp only);(repeat' ((refine .s ?_;grind [mA,LA,eA,yB,iC,List.length_eq_zero_iff])))⟩
instance{a0 a1 a2}:KA (Fa a0 a1 a2) (Fy a0 a1 a2):=⟨by unfold Fy Fa;(repeat' ((with_reducible first | intro _ | exact .r0 | refine .bd inferInstance ?_)))⟩
instance{a0 a1}:KA (Dz a0 a1) (Ci a0 a1):=⟨by unfold Ci Dz;((try simp only);repeat' ((with_reducible first | intro _ | exact .r0 | refine .bd inferInstance ?_ | apply pD | apply EB | apply cB | apply pL | apply DC | (apply_assumption;done))))⟩
instance{a0}:KA (Bc a0) (Bc a0):=⟨.r0⟩
instance{a0}:KA (Ez a0) (Fs a0):=⟨by unfold Fs Ez;((try simp only[yA,List.nil_append]);repeat' ((with_reducible first | intro _ | exact .r0 | apply eB | apply EB)))⟩
instance{a0 a1 a2}:KA (Gn a0 a1 a2) (Ft a0 a1 a2):=⟨by unfold Ft Gn;((try simp only[lA,yA,KC,List.nil_append]);repeat' ((with_reducible first | intro _ | exact .r0 | apply eB | apply ZB | refine .bd inferInstance ?_ | apply EB | apply cB | apply DC | (apply_assumption;done))))⟩
instance{a0 a1 a2 a3}:KA (Cc a0 a1 a2 a3) (Eh a0 a1 a2 a3):=⟨by unfold Eh Cc;((try simp only[JB,MU]);repeat' (first | (with_reducible first | intro _ | exact .r0 | apply eB | apply ZB | apply EB | apply cB | apply DC | (apply_assumption;done) | apply dC | refine .ct ‹_› ?_ | refine .cf ‹_› ?_ | apply VF) | (refine .s ?_;rfl) | (refine .kk ‹_› ?_;grind [mA,LA,eA])))⟩
instance{a0 a1 a2}:KA (Gm a0 a1 a2) (Hz a0 a1 a2):=⟨by unfold Hz Gm;((try simp only[zfv,JB]);repeat' ((with_reducible first | intro _ | exact .r0 | apply eB | apply ZB | apply EB | apply cB | apply DC | (apply_assumption;done))))⟩
instance{a0 a1 a2}:KA (Ew a0 a1 a2) (Ia a0 a1 a2):=⟨by unfold Ia Ew;((try simp only[yA,List.nil_append]);repeat' ((with_reducible first | intro _ | exact .r0 | apply eB | refine .bd inferInstance ?_ | apply pD | apply EB | apply cB | apply pL | apply DC | (apply_assumption;done))))⟩
instance{a0 a1 a2}:KA (Dy a0 a1 a2) (Ei a0 a1 a2):=⟨by unfold Ei Dy;((try simp only);repeat' (first | (with_reducible first | intro _ | apply PE | apply SE | exact .r0 | refine .bd inferInstance ?_ | apply pD | apply EB | apply cB | apply pL | apply DC | (apply_assumption;done)) | (with_reducible refine Ag.cr (λ_=>?_) (λ_=>?_)<;>try (exfalso;grind (splits:=3) [mA,LA,eA,zfW, →zew];done)) | (with_reducible first | apply iD | apply dC | refine .bR ‹_› ?_ | apply sE) | (refine .kk ‹_› ?_;grind [mA,LA,eA,zfW, →zew]) | (exfalso;grind [mA,LA,eA,zfW, →zew])))⟩
instance{a0 a1}:KA (Bv a0 a1) (Cg a0 a1):=⟨by unfold Cg Bv;((try simp only[MU,FC]);repeat' (first | (with_reducible first | intro _ | exact .r0 | apply eB | refine .bd inferInstance ?_ | apply EB | apply cB | apply DC | (apply_assumption;done) | apply dC | apply VF) | (refine .kk ‹_› ?_;grind [mA,LA,eA])))⟩
instance{a0 a1}:KA (Cq a0 a1) (Ca a0 a1):=⟨by unfold Ca Cq;((try simp only[yA,List.nil_append]);repeat' (first | (with_reducible first | intro _ | exact .r0 | apply eB | apply pD | apply EB | apply dC | apply VF) | (refine .s ?_;grind [mA,LA,eA,yB,iC,List.length_eq_zero_iff])))⟩
instance{a0 a1 a2 a3 a4 a5 a6}:KA (Ey a0 a1 a2 a3 a4 a5 a6) (Dp a0 a1 a2 a3 a4 a5 a6):=⟨by unfold Dp Ey;rw[show List.replicate (16:Int).toNat (UInt8.ofNat (0:Int).toNat)=List.replicate 16 0 from rfl];((try simp only[yA,FC,List.nil_append]);repeat' (first | (with_reducible first | intro _ | apply PE | apply SE | exact .r0 | apply eB | refine .bd inferInstance ?_ | apply EB | refine .ct ‹_› ?_ | refine .cf ‹_› ?_) | (with_reducible refine Ag.cr (λ_=>?_) (λ_=>?_)<;>try (exfalso;grind (splits:=3) [mA,LA,eA, →zem,oB,UF];done)) | (with_reducible first | apply iD | apply dC | apply EG | apply sE) | (exfalso;grind [mA,LA,eA, →zem,oB,UF]) | dsimp only[cond_true,cond_false]));all_goals ((refine Ag.lI (λx=>∃i:Nat,x=(λi:Nat=>((i:Int),(⟨a5,0,[],a2,0,[],[],a3,a4,_,List.replicate i 0⟩:Ab))) i∧i≤16) ⟨0,by first | rfl | simp,by decide⟩ (λx k hx hk=>?_) _;obtain⟨i,hx,h2⟩:=hx;have hi:(i:Int)<16→gA .i64 (i:Int) 1=((i+1:Nat):Int):=λh=>(by rw[DA (by omega) (by omega)];omega);subst hx;refine .cr (λhc=> .gr λ_=>hk _ ⟨i+1,?_,?_⟩) λhc=>?_;(· simp only[B]at hc;simp[hi hc,List.replicate_succ']);(· simp only[B]at hc;omega);have he:i=16:=(by simp only[B]at hc;omega);subst he;try dsimp only);(repeat' (first | (with_reducible first | intro _ | exact .r0) | with_reducible refine .bT inferInstance ‹_› ?_)))⟩
instance{a0 a1 a2 a3 a4}:KA (Gp a0 a1 a2 a3 a4) (Ej a0 a1 a2 a3 a4):=⟨by unfold Ej Gp;((try simp only[lA]);repeat' (first | (with_reducible first | intro _ | apply PE | apply SE | exact .r0 | apply eB | apply ZB | apply cB | refine .ct ‹_› ?_ | refine .cf ‹_› ?_) | (with_reducible refine Ag.cr (λ_=>?_) (λ_=>?_)<;>try (exfalso;grind (splits:=3) [mA,LA,eA, →zkx, →zem,oB,UF,JC];done)) | (with_reducible first | apply iD | apply dC | refine .bT inferInstance ‹_› ?_ | apply sE)))⟩
instance{a0 a1 a2}:KA (Ce a0 a1 a2) (Bs a0 a1 a2):=⟨by unfold Bs Ce;cases a0;((try simp only[lA,jC]);repeat' (first | (with_reducible first | intro _ | exact .r0 | apply eB | apply ZB | refine .bd inferInstance ?_ | apply cB) | with_reducible apply VF | with_reducible apply EG | (refine .s ?_;grind [mA,LA,eA,yB,iC,List.length_eq_zero_iff, →zi5])))⟩
instance{a0 a1}:KA (Ea a0 a1) (Ek a0 a1):=⟨by unfold Ek Ea;((try simp only[yA,List.nil_append]);repeat' ((with_reducible first | intro _ | exact .r0 | apply eB | apply EB)))⟩
instance{a0 a1}:KA (Bo a0 a1) (Bt a0 a1):=⟨by unfold Bt Bo;(repeat' ((with_reducible first | intro _ | exact .r0 | refine .bd inferInstance ?_)))⟩
instance{a0 a1 a2}:KA (Gq a0 a1 a2) (Fu a0 a1 a2):=⟨by unfold Fu Gq;((try simp only[lA,yA,KC,List.nil_append]);repeat' ((with_reducible first | intro _ | exact .r0 | apply eB | apply ZB | refine .bd inferInstance ?_ | apply EB | apply cB | apply DC | (apply_assumption;done))))⟩
instance{a0}:KA (Dl a0) (Dl a0):=⟨.r0⟩
instance{a0}:KA (Bj a0) (Bj a0):=⟨.r0⟩
instance{a0}:KA (Fd a0) (Fv a0):=⟨by unfold Fv Fd;((try simp only[lA,jC]);repeat' ((with_reducible first | intro _ | exact .r0 | apply eB | apply ZB | refine .bd inferInstance ?_ | apply cB | apply DC | (apply_assumption;done))))⟩
instance{a0 a1}:KA (Gy a0 a1) (Fw a0 a1):=⟨by unfold Fw Gy;((try simp only[lA,KC]);repeat' ((with_reducible first | intro _ | exact .r0 | apply eB | apply ZB | refine .bd inferInstance ?_ | apply cB | apply DC | (apply_assumption;done))))⟩
instance{a0 a1}:KA (Bp a0 a1) (Bp a0 a1):=⟨.r0⟩
instance{a0}:KA (Ht a0) (Fx a0):=⟨by unfold Fx Ht Cb Ch Dk;((try simp only[KC,lA,yA,ba,bs,LJ,List.nil_append]);repeat' (first | (with_reducible first | intro _ | exact .r0 | apply eB | apply ZB | apply EB | apply cB) | with_reducible apply VF | with_reducible apply dC | (refine .s ?_;grind [mA,LA,eA,yB,iC,List.length_eq_zero_iff,zgI])))⟩
instance{a0}:KA (Do a0) (Do a0):=⟨.r0⟩
instance{a0 a1 a2}:KA (Gz a0 a1 a2) (Ie a0 a1 a2):=⟨by unfold Ie Gz;generalize (fB a0 a1).toNat=n;((try simp only[lA,List.nil_append]);repeat' (first | (with_reducible first | intro _ | apply PE | apply SE | exact .r0 | apply eB | refine .bd inferInstance ?_ | apply pD | apply EB | apply cB) | (with_reducible refine Ag.cr (λ_=>?_) (λ_=>?_)<;>try (exfalso;grind (splits:=3) [mA,LA,eA,sD,BI,List.set_set];done)) | (with_reducible first | apply zf3 | apply iD | apply dC | apply EG | refine .bR ‹_› ?_ | apply sE) | (refine .s ?_;grind [mA,LA,eA,yB,iC,List.length_eq_zero_iff,sD,BI,List.set_set])))⟩
instance{a0}:KA (Eb a0) (Da a0):=⟨by exact zpC⟩
instance{a0 a1}:KA (Dm a0 a1) (Db a0 a1):=⟨by unfold Db Dm;((try simp only);repeat' ((with_reducible first | intro _ | exact .r0 | apply cB | apply pL | apply DC | (apply_assumption;done) | apply iD | apply dC | refine .bR ‹_› ?_ | refine .ct ‹_› ?_ | refine .cf ‹_› ?_)))⟩
instance{a0}:KA (Ef a0) (Dt a0):=⟨by unfold Dt Ef;(repeat' ((with_reducible first | intro _ | exact .r0 | refine .bd inferInstance ?_)))⟩
instance{a0 a1}:KA (By a0 a1) (By a0 a1):=⟨.r0⟩
instance{a0 a1 a2}:KA (Eg a0 a1 a2) (Du a0 a1 a2):=⟨by unfold Du Eg;((try simp only[lA,List.nil_append]);repeat' ((with_reducible first | intro _ | exact .r0 | apply eB | apply EB | apply cB | apply DC | (apply_assumption;done) | apply iD | apply dC | refine .bT inferInstance ‹_› ?_ | refine .ct ‹_› ?_ | refine .cf ‹_› ?_ | apply VF)))⟩
instance{a0 a1}:KA (Ha a0 a1) (If a0 a1):=⟨by unfold If Ha;((try simp only[yA,JB,List.nil_append]);repeat' ((with_reducible first | intro _ | exact .r0 | apply eB | apply EB | apply cB)))⟩
instance{a0 a1 a2 a3 a4}:KA (Ec a0 a1 a2 a3 a4) (Em a0 a1 a2 a3 a4):=⟨by unfold Em Ec;((try simp only[JB,BS]);repeat' (first | (with_reducible first | intro _ | exact .r0 | apply eB | apply ZB | refine .bd inferInstance ?_ | apply EB | apply cB | apply DC | (apply_assumption;done) | apply dC | apply VF) | (refine .s ?_;rfl) | (refine .kk ‹_› ?_;grind [mA,LA,eA])))⟩
instance{a0 a1 a2 a3 a4 a5}:KA (Fh a0 a1 a2 a3 a4 a5) (Ga a0 a1 a2 a3 a4 a5):=⟨by unfold Ga Fh;(repeat' ((with_reducible first | intro _ | exact .r0 | refine .bd inferInstance ?_ | apply cB | apply DC | (apply_assumption;done))))⟩
instance{a0 a1 a2}:KA (Fg a0 a1 a2) (Fz a0 a1 a2):=⟨by unfold Fz Fg;(repeat' ((with_reducible first | intro _ | exact .r0 | refine .bd inferInstance ?_ | apply cB | apply DC | (apply_assumption;done))))⟩
instance{a0}:KA (Fl a0) (Gd a0):=⟨by unfold Gd Fl;((try simp only[lA,jC]);repeat' ((with_reducible first | intro _ | exact .r0 | apply eB | apply ZB | refine .bd inferInstance ?_ | apply cB | apply DC | (apply_assumption;done))))⟩
instance{a0}:KA (Hh a0) (Eo a0):=⟨by unfold Eo Hh;((try simp only[lA,AD]);repeat' ((with_reducible first | intro _ | exact .r0 | apply eB | apply ZB | refine .bd inferInstance ?_ | apply cB | apply DC | (apply_assumption;done))))⟩
instance{a0}:KA (Cv a0) (Cv a0):=⟨.r0⟩
instance{a0 a1}:KA (Bz a0 a1) (Bz a0 a1):=⟨.r0⟩
instance{a0 a1 a2}:KA (Hd a0 a1 a2) (Ii a0 a1 a2):=⟨by unfold Ii Hd;((try simp only[zfv,List.nil_append]);repeat' (first | (with_reducible first | intro _ | exact .r0 | apply eB | refine .bd inferInstance ?_ | apply EB | apply cB | apply DC | (apply_assumption;done) | apply dC | apply VF) | (refine .kk ‹_› ?_;grind [mA,LA,eA])))⟩
instance{a0}:KA (Ct a0) (Ct a0):=⟨.r0⟩
instance{a0 a1}:KA (He a0 a1) (Ij a0 a1):=⟨by unfold Ij He;((try simp only[yA,OE,List.nil_append]);repeat' ((with_reducible first | intro _ | exact .r0 | apply eB | apply EB | apply cB)))⟩
instance{a0 a1 a2 a3}:KA (Fj a0 a1 a2 a3) (Gb a0 a1 a2 a3):=⟨by unfold Gb Fj;(repeat' (first | (with_reducible first | intro _ | exact .r0 | refine .bd inferInstance ?_ | apply cB) | (refine .s ?_;grind [mA,LA,eA,yB,iC,List.length_eq_zero_iff])))⟩
instance:KA (Hf) (Jo):=⟨by unfold Jo Hf;(repeat' (first | with_reducible apply EG | dsimp only[cond_true,cond_false]));(refine Ag.lI (λx=>∃i:Nat,x=(λi:Nat=>((i:Int),(⟨-1,List.replicate i 0⟩:Ap))) i∧i≤32) ⟨0,by first | rfl | simp,by decide⟩ (λx k hx hk=>?_) _;obtain⟨i,hx,h2⟩:=hx;have hi:(i:Int)<32→gA .i64 (i:Int) 1=((i+1:Nat):Int):=λh=>(by rw[DA (by omega) (by omega)];omega);subst hx;refine .cr (λhc=> .gr λ_=>hk _ ⟨i+1,?_,?_⟩) λhc=>?_;(· simp only[B]at hc;simp[hi hc,List.replicate_succ']);(· simp only[B]at hc;omega);have he:i=32:=(by simp only[B]at hc;omega);subst he;try dsimp only);(repeat' ((refine .s ?_;grind [mA,LA,eA,yB,iC,List.length_eq_zero_iff])))⟩
instance{a0 a1}:KA (Cu a0 a1) (Dd a0 a1):=⟨by unfold Dd Cu;((try simp only[yA,List.nil_append]);repeat' ((with_reducible first | intro _ | exact .r0 | apply eB | refine .bd inferInstance ?_ | apply EB | apply cB | apply DC | (apply_assumption;done))))⟩
instance{a0 a1 a2}:KA (Fk a0 a1 a2) (Gc a0 a1 a2):=⟨by unfold Gc Fk;((try simp only[yA,List.nil_append]);repeat' (first | (with_reducible first | intro _ | exact .r0 | apply eB | refine .bd inferInstance ?_ | apply EB | apply cB | apply DC | (apply_assumption;done) | apply dC | apply VF) | (refine .kk ‹_› ?_;grind [mA,LA,eA])))⟩
instance{a0 a1 a2 a3}:KA (Hg a0 a1 a2 a3) (En a0 a1 a2 a3):=⟨by unfold En Hg;((try simp only[yA,FC,List.nil_append]);repeat' (first | (with_reducible first | intro _ | exact .r0 | apply eB | refine .bd inferInstance ?_ | apply EB | apply cB | apply DC | (apply_assumption;done) | apply iD | apply dC | refine .bT inferInstance ‹_› ?_ | apply VF) | (refine .kk ‹_› ?_;grind [mA,LA,eA])))⟩
instance{a0 a1}:KA (Bl a0 a1) (Bl a0 a1):=⟨.r0⟩
instance{a0 a1 a2}:KA (Dn a0 a1 a2) (Dr a0 a1 a2):=⟨by unfold Dr Dn;((try simp only[yA,List.nil_append]);repeat' ((with_reducible first | intro _ | exact .r0 | apply eB | apply EB)))⟩
instance{a0}:KA (Bg a0) (Bg a0):=⟨.r0⟩
instance{a0 a1 a2 a3 a4}:KA (Ed a0 a1 a2 a3 a4) (Dc a0 a1 a2 a3 a4):=⟨by unfold Dc Ed;((try simp only[JB,BS]);repeat' (first | (with_reducible first | intro _ | exact .r0 | apply eB | apply ZB | apply EB | apply cB | apply DC | (apply_assumption;done) | apply dC | refine .ct ‹_› ?_ | refine .cf ‹_› ?_ | apply VF) | (refine .s ?_;rfl) | (refine .kk ‹_› ?_;grind [mA,LA,eA])))⟩
instance{a0 a1}:KA (Cs a0 a1) (Cs a0 a1):=⟨.r0⟩
instance{a0 a1}:KA (Bq a0 a1) (Bq a0 a1):=⟨.r0⟩
instance{a0 a1}:KA (Bk a0 a1) (Bk a0 a1):=⟨.r0⟩
instance{a0 a1 a2 a3}:KA (Hb a0 a1 a2 a3) (Ig a0 a1 a2 a3):=⟨by unfold Ig Hb;((try simp only[FC]);repeat' (first | (with_reducible first | intro _ | exact .r0 | apply eB | refine .bd inferInstance ?_ | apply cB | apply DC | (apply_assumption;done) | apply dC | apply VF) | (refine .kk ‹_› ?_;grind [mA,LA,eA])))⟩
instance{a0 a1 a2 a3 a4 a5}:KA (Fi a0 a1 a2 a3 a4 a5) (Dq a0 a1 a2 a3 a4 a5):=⟨by unfold Dq Fi;(repeat' ((with_reducible first | intro _ | exact .r0 | refine .bd inferInstance ?_ | apply cB | apply DC | (apply_assumption;done))))⟩
instance{a0 a1}:KA (Hc a0 a1) (Ih a0 a1):=⟨by unfold Ih Hc;((try simp only[FC]);repeat' ((with_reducible first | intro _ | exact .r0 | apply eB | apply cB | apply DC | (apply_assumption;done) | apply iD | apply dC | refine .bT inferInstance ‹_› ?_ | refine .ct ‹_› ?_ | refine .cf ‹_› ?_ | apply VF)))⟩
instance{a0 a1}:KA (Br a0 a1) (Ck a0 a1):=⟨by unfold Ck Br Hi;have h1:=@SA a0.Top 1024;have h2:=@DA (qA .i64 a0.Top 1024) 1;((try simp only[KF,bc,bs]);repeat' (first | (with_reducible first | intro _ | apply PE | apply SE | exact .r0 | apply eB | apply ZB | apply cB) | (with_reducible refine Ag.cr (λ_=>?_) (λ_=>?_)<;>try (exfalso;grind (splits:=3) [mA,LA,eA,RC];done)) | with_reducible apply dC | (refine .s ?_;grind [mA,LA,eA,yB,iC,List.length_eq_zero_iff,RC])))⟩
instance{a0 a1}:KA (Cw a0 a1) (De a0 a1):=⟨by exact zrf⟩
instance{a0 a1 a2}:KA (Hj a0 a1 a2) (Ik a0 a1 a2):=⟨by unfold Ik Hj;(repeat' ((with_reducible first | intro _ | exact .r0 | refine .bd inferInstance ?_ | apply cB | apply DC | (apply_assumption;done))))⟩
instance{a0 a1 a2}:KA (Cy a0 a1 a2) (Eq a0 a1 a2):=⟨by unfold Eq Cy;((try simp only[lA]);repeat' (first | (with_reducible first | intro _ | apply PE | apply SE | exact .r0 | apply eB | apply ZB | refine .bd inferInstance ?_ | apply cB | refine .ct ‹_› ?_ | refine .cf ‹_› ?_) | (with_reducible refine Ag.cr (λ_=>?_) (λ_=>?_)<;>try (exfalso;grind (splits:=3) [mA,LA,eA, →zql];done)) | (with_reducible first | apply iD | apply dC | refine .bT inferInstance ‹_› ?_ | apply sE)))⟩
instance{a0 a1 a2}:KA (Ee a0 a1 a2) (Df a0 a1 a2):=⟨by exact zp7 (λ_ _ _=>KA.h) (λ_ _=>KA.h)⟩
instance{a0 a1}:KA (Fm a0 a1) (Ge a0 a1):=⟨by unfold Ge Fm;((try simp only[jC,yA,List.nil_append]);repeat' ((with_reducible first | intro _ | exact .r0 | apply eB | apply ZB | apply EB | apply cB | apply DC | (apply_assumption;done))))⟩
instance{a0 a1 a2 a3}:KA (Fo a0 a1 a2 a3) (Gg a0 a1 a2 a3):=⟨by exact zsm⟩
instance{a0 a1 a2 a3}:KA (Fn a0 a1 a2 a3) (Gf a0 a1 a2 a3):=⟨by exact zq2⟩
instance{a0}:KA (Hk a0) (Il a0):=⟨by unfold Il Hk;((try simp only[lA,OE,jC]);repeat' ((with_reducible first | intro _ | exact .r0 | apply eB | apply ZB | refine .bd inferInstance ?_ | apply cB | apply DC | (apply_assumption;done))))⟩
instance{a0 a1 a2}:KA (Hl a0 a1 a2) (Im a0 a1 a2):=⟨by unfold Im Hl;have h1:=@SA a0.Cur.N 1;((try simp only[lA,jC,DB]);repeat' (first | (with_reducible first | intro _ | apply PE | apply SE | exact .r0 | apply eB | apply ZB | refine .bd inferInstance ?_ | apply cB) | (with_reducible refine Ag.cr (λ_=>?_) (λ_=>?_)<;>try (exfalso;grind (splits:=3) [mA,LA,eA,GC];done)) | (with_reducible first | apply iD | apply dC | apply sE) | (refine .s ?_;grind [mA,LA,eA,yB,iC,List.length_eq_zero_iff,GC])))⟩
instance{a0 a1 a2 a3 a4}:KA (Hm a0 a1 a2 a3 a4) (Gh a0 a1 a2 a3 a4):=⟨by unfold Gh Hm Jq;((try simp only[lA,yA,List.nil_append,ba,bc,bs,AD]);repeat' (first | (with_reducible first | intro _ | exact .r0 | apply eB | apply ZB | refine .bd inferInstance ?_ | apply pD | apply EB | apply cB | apply DC | (apply_assumption;done) | apply zf3 | (apply BM;simp only[ba,bc,bs,bn]) | apply iD | apply dC | apply EG | refine .bT inferInstance ‹_› ?_ | refine .ct ‹_› ?_ | refine .cf ‹_› ?_ | apply sE | apply VF) | (refine .s ?_;grind [mA,LA,eA,yB,iC,List.length_eq_zero_iff])))⟩
instance{a0 a1 a2 a3}:KA (Ho a0 a1 a2 a3) (In a0 a1 a2 a3):=⟨by
 unfold In Ho
 (try simp only[lA,CC,FD,CD,List.nil_append,zD,DB,yA,ba])
 refine .pl λ_=> .pr λ_=> .jBl (.jBr (.pl λ_=> .pr λ_=> .cc (λ_=> .r0) λhs=> .cc (λ_=> .r0) λhn=> .cc (λ_=> .r0) λha=> .bd inferInstance λcr hcr _=> .bd inferInstance λfr xW _=>?_));refine Ag.hj (λk k'=>(∀y z,y.1=z.1→y.2.1=z.2.1→y.2.2=z.2.2.1→Ag (k y) (k' z))∧(∀y,y.1=[]→Ag (k y) (some (y.2.2,[],y.2.1)))) ⟨?_,?_⟩ λk k' hk=>?_
 ·rintro⟨o,n,s⟩ ⟨o',n',s',d⟩ e1 e2 e3;cases e1;cases e2;cases e3;exact zu0 (λ_ _=>KA.h) (λ_=>KA.h) (λ_ _ _=>KA.h)
 ·rintro⟨o,n,s⟩ e1;exact .jl (ztk e1 .r0)
 obtain⟨uZ,kZ⟩:=hk;refine .ce (by rfl) (λ_=>kZ _ rfl) λhf=>?_;have S:=IE.1 (by simpa using hs)
 have hD:a0.D.N≤10000:=by
  have:=S.dice;simp only[YB,Bool.and_eq_true,uB]at this;omega
 have hT:=S.tab;have hfo:=zqc xW (by simpa using hf);have o6:(QC a0.D).2.length≤100:=by have:=PI a0.D;omega
 generalize fr.1=f at *;cases h1:(f.Kind==1)
 ·cases h3:(f.Kind==3)
  ·cases h4:PB f.Kind
   ·simp only[aA,cond_true,cond_false];exact uZ _ _ rfl rfl rfl
   ·simp only[aA,cond_true,cond_false];unfold Jr
    (try simp only[lA,CC,FD,CD,List.nil_append,zD,DB,yA,ba])
    simp only[ba,bc,bs,bn,aA];refine .pl λ_=> .pr λ_=> .cc (λ_=>kZ _ rfl) λhn=> .bd inferInstance λe he _=> .cc (λ_=>kZ _ rfl) λhd=> .pl λ_=> .pr λ_=> .bd inferInstance λm _ _=> .cc (λ_=>?_) λ_=>?_
    ·have hz:([]:List UInt8).length≤100:=by decide
     ((try simp only[lA,CC,FD,CD,List.nil_append,zD,DB,yA,ba]);repeat' (first | (with_reducible first | intro _ | apply eB | apply ZB | refine .bd inferInstance ?_ | apply pD | apply EB | apply cB | refine .ct ‹_› ?_ | refine .cf ‹_› ?_) | (with_reducible refine Ag.cr (λ_=>?_) (λ_=>?_)<;>try (exfalso;grind (splits:=3) [mA,LA,eA, →xS];done)) | (with_reducible first | (apply BM;simp only[ba,bc,bs,bn]) | apply iD | apply dC | refine .bT inferInstance ‹_› ?_ | refine .bR ‹_› ?_ | refine .bI ‹_› ?_ | apply sE) | (exfalso;grind [mA,LA,eA, →xS])))
     all_goals first | exact kZ _ rfl | (refine uZ _ _ ?_ ?_ ?_<;>first | rfl | grind [→xS])
    ·((try simp only[lA,CC,FD,CD,List.nil_append,zD,DB,yA,ba]);repeat' (first | (with_reducible first | intro _ | apply eB | apply ZB | refine .bd inferInstance ?_ | apply pD | apply EB | apply cB | refine .ct ‹_› ?_ | refine .cf ‹_› ?_) | (with_reducible refine Ag.cr (λ_=>?_) (λ_=>?_)<;>try (exfalso;grind (splits:=3) [mA,LA,eA, →xS];done)) | (with_reducible first | (apply BM;simp only[ba,bc,bs,bn]) | apply iD | apply dC | refine .bT inferInstance ‹_› ?_ | refine .bR ‹_› ?_ | refine .bI ‹_› ?_ | apply sE) | (exfalso;grind [mA,LA,eA, →xS])))
     all_goals first | exact kZ _ rfl | (refine uZ _ _ ?_ ?_ ?_<;>first | rfl | grind [→xS])
  ·simp only[aA,cond_true,cond_false];unfold Jp
   (try simp only[lA,CC,FD,CD,List.nil_append,zD,DB,yA,ba])
   refine .jbl ?_;simp only[ba,bc,bs,bn,aA];refine .bd inferInstance λj _ _=> .cc (λ_=>kZ _ rfl) λhj=> .cc (λ_=>kZ _ rfl) λhid=> .bd inferInstance λp hp _=> .bd inferInstance λok _ _=> .cc (λ_=>kZ _ rfl) λ_=> .pl λ_=> .pr λ_=> .cc (λhn=>?_) λhn=>?_
   ·refine .bd inferInstance λp2 _ _=> .bd inferInstance λs nX _=> .bd inferInstance λt ht _=> .cc (λ_=>kZ _ rfl) λh0=>?_;have h0:t.2=0:=by simpa using h0
    have e1:=zqJ ht h0;rw[zqR nX (zet ht h0).2.2.2]at e1;have e2:=zqL ht h0;simp only[e1]
    ((try simp only[lA,CC,FD,CD,List.nil_append,zD,DB,yA,ba]);repeat' (first | (with_reducible first | intro _ | apply eB | apply ZB | refine .bd inferInstance ?_ | apply pD | apply EB | apply cB | refine .ct ‹_› ?_ | refine .cf ‹_› ?_) | (with_reducible refine Ag.cr (λ_=>?_) (λ_=>?_)<;>try (exfalso;grind (splits:=3) [mA,LA,eA, →ES];done)) | (with_reducible first | (apply BM;simp only[ba,bc,bs,bn]) | apply iD | apply dC | refine .bT inferInstance ‹_› ?_ | refine .bR ‹_› ?_ | refine .bI ‹_› ?_ | apply sE) | (exfalso;grind [mA,LA,eA, →ES])))
    all_goals first | exact kZ _ rfl | (refine uZ _ _ ?_ ?_ ?_<;>first | rfl | grind [→ES])
   ·((try simp only[lA,CC,FD,CD,List.nil_append,zD,DB,yA,ba]);repeat' (first | (with_reducible first | intro _ | apply eB | apply ZB | refine .bd inferInstance ?_ | apply pD | apply EB | apply cB | refine .ct ‹_› ?_ | refine .cf ‹_› ?_) | (with_reducible refine Ag.cr (λ_=>?_) (λ_=>?_)<;>try (exfalso;grind (splits:=3) [mA,LA,eA, →ES];done)) | (with_reducible first | (apply BM;simp only[ba,bc,bs,bn]) | apply iD | apply dC | refine .bT inferInstance ‹_› ?_ | refine .bR ‹_› ?_ | refine .bI ‹_› ?_ | apply sE) | (exfalso;grind [mA,LA,eA, →ES])))
    all_goals first | exact kZ _ rfl | (refine uZ _ _ ?_ ?_ ?_<;>first | rfl | grind [→ES])
 ·simp only[aA,cond_true,cond_false];unfold Jn
  ((try simp only[lA,CC,FD,CD,List.nil_append,zD,DB,yA,ba]);repeat' (first | (with_reducible first | intro _ | apply eB | apply ZB | refine .bd inferInstance ?_ | apply pD | apply EB | apply cB | refine .ct ‹_› ?_ | refine .cf ‹_› ?_) | (with_reducible refine Ag.cr (λ_=>?_) (λ_=>?_)<;>try (exfalso;grind (splits:=3) [mA,LA,eA];done)) | (with_reducible first | (apply BM;simp only[ba,bc,bs,bn]) | apply iD | apply dC | refine .bT inferInstance ‹_› ?_ | refine .bR ‹_› ?_ | refine .bI ‹_› ?_ | apply sE) | (exfalso;grind [mA,LA,eA])))
  all_goals first
   | exact kZ _ rfl
   | exact uZ _ _ rfl rfl rfl
   | skip⟩
instance{a0}:KA (Fb a0) (Dv a0):=⟨by unfold Dv Fb;((try simp only);repeat' ((with_reducible first | intro _ | exact .r0 | refine .bd inferInstance ?_ | apply pD | apply EB | apply cB | apply pL | apply DC | (apply_assumption;done) | apply iD | refine .bT inferInstance ‹_› ?_ | refine .bR ‹_› ?_)))⟩
instance{a0 a1 a2}:KA (Hp a0 a1 a2) (Er a0 a1 a2):=⟨by unfold Er Hp;((try simp only[yA,FC,lA]);repeat' (first | (with_reducible first | intro _ | apply PE | apply SE | exact .r0 | apply eB | apply ZB | refine .bd inferInstance ?_ | apply cB) | (with_reducible refine Ag.cr (λ_=>?_) (λ_=>?_)<;>try (exfalso;grind (splits:=3) [mA,LA,eA,UU];done)) | (with_reducible first | apply iD | apply dC | apply sE) | (refine .s ?_;grind [mA,LA,eA,yB,iC,List.length_eq_zero_iff,UU])))⟩
instance{a0 a1 a2}:KA (Hq a0 a1 a2) (Es a0 a1 a2):=⟨by unfold Es Hq Dg Cl;have hc:=λh=>(@zvq a0 h);((try simp only[lA,yA,ba,bc,bs,DB,KC,FC,List.nil_append]);repeat' (first | (with_reducible first | intro _ | apply PE | apply SE | exact .r0 | apply eB | apply ZB | refine .bd inferInstance ?_ | apply pD | apply EB | apply cB | refine .ct ‹_› ?_ | refine .cf ‹_› ?_) | (with_reducible refine Ag.cr (λ_=>?_) (λ_=>?_)<;>try (exfalso;grind (splits:=3) [mA,LA,eA, →zei, →zib, →zif];done)) | (with_reducible first | (apply BM;simp only[ba,bc,bs,bn]) | apply iD | apply dC | apply EG | refine .bT inferInstance ‹_› ?_ | apply sE) | (refine .s ?_;grind [mA,LA,eA,yB,iC,List.length_eq_zero_iff, →zei, →zib, →zif])))⟩
instance{a0 a1}:KA (Gr a0 a1) (Dw a0 a1):=⟨by unfold Dw Gr;((try simp only[lA,yA,AD,List.nil_append]);repeat' (first | (with_reducible first | intro _ | apply PE | apply SE | exact .r0 | apply eB | apply ZB | refine .bd inferInstance ?_ | apply EB | apply cB) | (refine .s ?_;grind [mA,LA,eA,yB,iC,List.length_eq_zero_iff, →zei,TE,GM])))⟩
instance{a0 a1 a2 a3}:KA (Gs a0 a1 a2 a3) (Js a0 a1 a2 a3):=⟨by unfold Js Gs;have h1:=λh=>@zk4 a0 h;((try simp only[lA,CC]);repeat' (first | (with_reducible first | intro _ | apply PE | apply SE | exact .r0 | apply eB | apply ZB | refine .bd inferInstance ?_ | apply EB | apply cB) | (with_reducible refine Ag.cr (λ_=>?_) (λ_=>?_)<;>try (exfalso;grind (splits:=3) [mA,LA,eA, →zkF, →zd8];done)) | (with_reducible first | apply iD | apply dC | apply EG | refine .bI ‹_› ?_ | apply sE) | (refine .s ?_;grind [mA,LA,eA,yB,iC,List.length_eq_zero_iff, →zkF, →zd8])))⟩
instance{a0}:KA (Hs a0) (Gi a0):=⟨by unfold Gi Hs;((try simp only[lA,FD,CD,yA,CC,List.nil_append]);repeat' ((with_reducible first | intro _ | exact .r0 | apply eB | apply ZB | apply EB | apply cB | apply DC | (apply_assumption;done))))⟩
instance{a0}:KA (Fe a0) (Et a0):=⟨by unfold Et Fe;((try simp only[AD,lA,yA,List.nil_append]);repeat' ((with_reducible first | intro _ | exact .r0 | apply eB | apply ZB | apply EB | apply cB)))⟩
instance{a0 a1}:KA (Hu a0 a1) (Jt a0 a1):=⟨by unfold Jt Hu Ch Ff;have h1:=λh=>@zk4 a0 h;((try simp only[lA,CC,yA,ba,bs,List.nil_append,bc,bn]);repeat' (first | (with_reducible first | intro _ | apply PE | apply SE | exact .r0 | apply eB | apply ZB | refine .bd inferInstance ?_ | apply EB | apply cB) | (with_reducible refine Ag.cr (λ_=>?_) (λ_=>?_)<;>try (exfalso;grind (splits:=3) [mA,LA,eA, →zkn];done)) | (with_reducible first | apply iD | apply dC | refine .bR ‹_› ?_ | refine .bI ‹_› ?_ | apply sE) | (refine .s ?_;grind [mA,LA,eA,yB,iC,List.length_eq_zero_iff, →zkn])))⟩
instance{a0}:KA (Hv a0) (Iq a0):=⟨by unfold Iq Hv;((try simp only[jC,yA,List.nil_append]);repeat' ((with_reducible first | intro _ | exact .r0 | apply eB | apply ZB | apply pD | apply EB | apply cB | apply DC | (apply_assumption;done))))⟩
instance{a0 a1}:KA (Bw a0 a1) (Bw a0 a1):=⟨.r0⟩
instance{a0 a1}:KA (Bx a0 a1) (Dh a0 a1):=⟨by unfold Dh Bx Ds;((try simp only[lA,ba,bx,rH]);repeat' ((with_reducible first | intro _ | exact .r0 | apply eB | apply ZB | refine .bd inferInstance ?_ | apply pD | apply EB | apply cB | apply pL | apply DC | (apply_assumption;done) | refine .bR ‹_› ?_)))⟩
instance{a0 a1}:KA (Gu a0 a1) (Is a0 a1):=⟨by unfold Is Gu;((try simp only[lA,AD]);repeat' ((with_reducible first | intro _ | exact .r0 | apply eB | apply ZB | refine .bd inferInstance ?_ | apply cB | apply DC | (apply_assumption;done))))⟩
instance{a0 a1}:KA (Gv a0 a1) (Iu a0 a1):=⟨by unfold Iu Gv;((try simp only[lA,jG]);repeat' ((with_reducible first | intro _ | exact .r0 | apply eB | apply ZB | refine .bd inferInstance ?_ | apply pD | apply EB | apply cB | apply pL | apply DC | (apply_assumption;done))))⟩
instance{a0 a1}:KA (Gw a0 a1) (Iv a0 a1):=⟨by unfold Iv Gw Ch Ff;((try simp only[lA,zD,yA,ba,bs,CC,List.nil_append,bc,bn]);repeat' ((with_reducible first | intro _ | exact .r0 | apply eB | apply ZB | refine .bd inferInstance ?_ | apply pD | apply EB | apply cB | apply pL | apply DC | (apply_assumption;done) | apply iD | apply dC | refine .bR ‹_› ?_ | refine .ct ‹_› ?_ | refine .cf ‹_› ?_)))⟩
instance{a0 a1}:KA (Cf a0 a1) (Cf a0 a1):=⟨.r0⟩
instance{a0 a1}:KA (Fc a0 a1) (Cm a0 a1):=⟨by unfold Cm Fc;((try simp only);repeat' (first | (with_reducible first | intro _ | exact .r0 | refine .bd inferInstance ?_ | apply cB | apply EG | apply VF) | (refine .s ?_;grind [mA,LA,eA,yB,iC,List.length_eq_zero_iff,sD])))⟩
instance{a0 a1}:KA (Gt a0 a1) (Eu a0 a1):=⟨by unfold Eu Gt Gj Cb Ch Dk;((try simp only[lA,yA,ba,bs,bc,KC,LJ,List.nil_append]);repeat' (first | (with_reducible first | intro _ | apply PE | apply SE | exact .r0 | apply eB | apply ZB | refine .bd inferInstance ?_ | apply EB | apply cB | refine .ct ‹_› ?_ | refine .cf ‹_› ?_) | (with_reducible refine Ag.cr (λ_=>?_) (λ_=>?_)<;>try (exfalso;grind (splits:=3) [mA,LA,eA,zgI, →zhP,dB];done)) | (with_reducible first | (apply BM;simp only[ba,bc,bs,bn]) | apply iD | apply dC | apply EG | refine .bT inferInstance ‹_› ?_ | apply sE) | (refine .s ?_;grind [mA,LA,eA,yB,iC,List.length_eq_zero_iff,zgI, →zhP,dB])))⟩
instance{a0 a1}:KA (Fr a0 a1) (Iw a0 a1):=⟨by unfold Iw Fr;((try simp only[yA,SJ]);repeat' ((with_reducible first | intro _ | exact .r0 | apply eB | apply ZB)))⟩
end Go.D
namespace Go.D
def Ag.li{α σ:Type}(I:σ→Prop){f f':σ→(σ→Option α)→Option α}{x0:σ}(h0:I x0)(e:∀x k k',I x→(∀y,I y→Ag (k y) (k' y))→Ag (f x k) (f' x k')):∀n,Ag (wA n f x0) (wA n f' x0):=by
 intro n;induction n generalizing x0 with
 | zero=>exact nl
 | succ n ih=>exact e _ _ _ h0 λ_ h=>ih h
def zud{k:Int}:Ag (Jm k) (Di k):=by
 by_cases h:0≤k∧k≤10
 ·have:k=0∨k=1∨k=2∨k=3∨k=4∨k=5∨k=6∨k=7∨k=8∨k=9∨k=10:=by omega
  rcases this with rfl | rfl | rfl | rfl | rfl | rfl | rfl | rfl | rfl | rfl | rfl<;>exact Ag.r0
 ·unfold Di;refine .cr (λhc=>absurd ?_ h) λ_=> .nr;simp only[B,List.length_cons,List.length_nil]at hc;omega
instance{k:Int}:KA (Di k) (Jm k):=⟨zud⟩
end Go.D
namespace Go.D
set_option maxHeartbeats 2000000
def zfg{α:Type}{l:List α}{m:Nat}{j:Int}(h:m+j.toNat<l.length)(hj:0≤j):nA (List.take ((l.length:Int) - (m:Int)).toNat (List.drop m l)) j=l[m+j.toNat]?:=by
 unfold nA;rw[if_pos hj,List.getElem?_take,if_pos (by omega),List.getElem?_drop]
def Ag.lb{α β σ:Type}{K:α→Option β}{f:σ→(σ→Option α)→Option α}{f':σ→(σ→Option β)→Option β}{x0:σ}(e:∀x k k',(∀y,Ag (Option.bind (k y) K) (k' y))→Ag (Option.bind (f x k) K) (f' x k')):∀n,Ag (Option.bind (wA n f x0) K) (wA n f' x0):=by
 intro n;induction n generalizing x0 with
 | zero=>exact nl
 | succ n ih=>exact e _ _ _ λ_=>ih
def ztN{a0 a1 a2}:Ag (Ic a0 a1 a2) (Fp a0 a1 a2):=by
 unfold Ic Fp
 (try simp only[yA,List.nil_append,mJ,OE])
 refine .cc (λ_=> .r0) λ_=> .jj (λy=>?_) λk k' hk=>Ag.li (λx=>x.1.length≤8) (by decide) (λx k4 k4' hx iW=>?_) _
 ·(repeat' ((with_reducible first | intro _ | exact .r0 | apply eB | refine .bd inferInstance ?_ | apply pD | apply EB | apply cB)))
 ·have hi:=λr:Int=>@SA (x.1.length:Int) r;refine .cc (λ_=> .bd inferInstance λe _ _=> .bl λr6 h6=> .jBl (.jBr (.bd inferInstance λso hso _=> .cc (λ_=> .r0) λhs=> .bT inferInstance h6 λ_=> .ce ?_ (λ_=> .r0) λhl=>?_))) λ_=>hk _
  ·obtain⟨q,hq,hb⟩:=zdD (a0:=e.Kind);cases hq.symm.trans h6;rw[hi r6 (by omega) (by omega)];exact decide_eq_decide.2 (by omega)
  ·obtain⟨q,hq,hb⟩:=zhu (a0:=e);cases hq.symm.trans hso;obtain⟨q,hq,hc⟩:=zdD (a0:=e.Kind);cases hq.symm.trans h6;have hb:=hb (by simpa using hs);have MV:r6≤(x.1.length:Int):=by simp only[B]at hl;rw[hi r6 (by omega) (by omega)]at hl;omega
   have hi:=hi r6 (by omega) (by omega);obtain⟨m,hm⟩:∃m:Nat,(x.1.length:Int) - r6=m:=⟨_,(Int.toNat_of_nonneg (by omega)).symm⟩;rw[hm]at hi;refine .gl λ_=> .bT inferInstance h6 λ_=>?_;have MX:1≤r6→_:=λh=>zfg (l:=x.1) (m:=m) (j:=0) (by omega) (by omega);have Z0:2≤r6→_:=λh=>zfg (l:=x.1) (m:=m) (j:=1) (by omega) (by omega);have nY:3≤r6→_:=λh=>zfg (l:=x.1) (m:=m) (j:=2) (by omega) (by omega);have e1:gA .i64 (m:Int) 1=((m+1:Nat):Int):=DA (by omega) (by omega);have e2:gA .i64 (m:Int) 2=((m+2:Nat):Int):=DA (by omega) (by omega)
   have h8:decide (((m+1:Nat):Int)>8)=((m:Int)==8):=by
    rw[Bool.eq_iff_iff,decide_eq_true_iff,beq_iff_eq];omega
   have sW:∀(b:List UInt8) (i:Int),((m:Int)==8)=false→Ag (k4 (List.take m x.1++[b],i)) (k4' (List.take m x.1++[b],i)):=λb i h=>iW _ (by have h:=beq_eq_false_iff_ne.1 h;simp only[List.length_append,List.length_take,List.length_cons,List.length_nil];omega);have:e.Kind=1∨e.Kind=2∨e.Kind=3∨e.Kind=4∨e.Kind=5∨e.Kind=6∨e.Kind=7∨e.Kind=8∨e.Kind=9∨e.Kind=10:=by omega
   unfold Je
   rcases this with h | h | h | h | h | h | h | h | h | h
   all_goals (try have MX:=MX (by omega))
   all_goals (try have Z0:=Z0 (by omega))
   all_goals (try have nY:=nY (by omega))
   all_goals (simp only[h,hi,MX,Z0,nY,aA,beq_self_eq_true,cond_true,cond_false,Int.reduceBEq,ba,bc,bs,bn,h8,e1,e2,List.drop_zero,Int.sub_zero,Int.toNat_natCast,Int.reduceToNat,Nat.add_zero,mJ,zfv,OE,List.nil_append,Bool.not_true,Bool.not_false])
   rotate_left 5
   ·refine .gr λ_=> .bd inferInstance λu hu _=> .gr λ_=> .bd inferInstance λv hv _=> .cl (λh1=> .cf (by simp only[bne,h1];rfl) ?_) λh1=> .ct (by simp only[bne,h1];rfl) .r0;simp only[hu,hv,bs,Jd,aA];refine .lb (λx k k' EW=>?_) _;simp only[ba,bc,bs,bn]
    repeat' (first | exact sW _ _ ‹_› | exact EW _ | (with_reducible first | intro _ | exact .r0 | refine .bd inferInstance ?_ | apply pD | apply EB | apply cB) | fail | (fail) | dsimp only[cond_true,cond_false])
   all_goals (repeat' (first | exact sW _ _ ‹_› | (with_reducible first | intro _ | exact .r0 | apply eB | apply ZB | refine .bd inferInstance ?_ | apply pD | apply EB | apply cB) | (with_reducible first | intro _ | apply iD | apply dC | refine .bR ‹_› ?_ | refine .ct ‹_› ?_ | refine .cf ‹_› ?_ | apply sE | apply VF) | ((exfalso;grind [mA,LA,eA])) | dsimp only[cond_true,cond_false]))
instance{a0:List Az}{a1:List Ak}{a2:List (List UInt8)}:KA (Fp a0 a1 a2) (Ic a0 a1 a2):=⟨ztN⟩
end Go.D
namespace Go.D
open Option renaming bind→ob
set_option maxHeartbeats 1000000
def Ag.bM{α β γ:Type}{x:Option α}{y:Option β}(g:α→β)(h:Ag (ob x λv=>some (g v)) y){f:α→Option γ}{f':β→Option γ}(k:∀v,x=some v→Ag (f v) (f' (g v))):Ag (ob x f) (ob y f'):=by
 cases hx:x with
 | none=>exact nl
 | some v=>
  cases hy:y with
  | none=>exact nr
  | some w=>
   subst hx hy;have:=h _ _ rfl rfl;subst this;exact k v rfl
def Ag.lr{α σ τ:Type}(R:σ→τ→Prop){f:σ→(σ→Option α)→Option α}{f':τ→(τ→Option α)→Option α}{x0:σ}{y0:τ}(h0:R x0 y0)(e:∀x y k k',R x y→(∀x y,R x y→Ag (k x) (k' y))→Ag (f x k) (f' y k')):∀n,Ag (wA n f x0) (wA n f' y0):=by
 intro n;induction n generalizing x0 y0 with
 | zero=>exact nl
 | succ n ih=>exact e _ _ _ _ h0 λ_ _ h=>ih h
def zup{a0 a1 a2 a3}(ha:ZA a0=true)(ht:eA a1 0 2=true)(hf:GA a2=true):Ag (ob (Bf a0 a1 a2 a3) λr=>some (r.2,r.1)) (Hr a0 a1 a2 a3):=by
 unfold Bf Hr
 (try simp only[lA,eE,ba,bc,bs,bn])
 simp only[aA,ha,ht,hf,Bool.not_true,cond_false,cond_true]
 ((try simp only[lA,eE,ba,bc,bs,bn]);repeat' (first | (with_reducible first | intro _ | exact .r0 | apply eB | refine .bd inferInstance ?_ | apply pD | apply EB | apply cB | apply dC | refine .bR ‹_› ?_ | apply sE | apply VF) | (refine .s ?_;grind [mA,LA,eA,yB,iC,List.length_eq_zero_iff])))
def zuh{a0}(ha:ZA a0=true)(ht:(a0.Now==1000000)=false):Ag (ob (Bm a0) λr=>some (r.2,r.1)) (Gx a0):=by
 unfold Bm Gx
 (try simp only[lA,eE,ba,bc,bn,bs])
 refine .pl λ_=>?_;simp only[aA,ha,ht,ba];refine .pl λ_=>?_;have hc:(a0.Clients.length:Int)=2:=by rw[(SB.1 ha).cl];rfl
 simp only[Bool.not_true,cond_false,hc];refine .lb (λx k k' hk=>?_) _
 (try simp only[lA,eE,ba,bc,bn,bs])
 (repeat' ((with_reducible first | intro _ | exact .r0 | refine .bd inferInstance ?_ | apply pD | apply EB | apply cB | (apply_assumption;done))))
def zvf{l:List Ak}{x:Ak}:Pc (Ix l x) λr=>r=cond (fE (l++[x])) (l++[x]) l:=by
 unfold Ix
 (try simp only[List.nil_append,lA])
 refine .g λ_=> .g λ_=> .p λ_=> .c (λh=> .p λ_=> .s ?_) λh=> .s ?_
 ·rw[show fE (l++[x])=false by simpa using h];rfl
 ·rw[show fE (l++[x])=true by simpa using h];rfl
def ziC{l:List Ak}{x:Ak}(hl:fE l=true)(hx:lE x=true):fE (l++[x])=decide ((l.length:Int)<90):=by
 simp only[fE,Bool.and_eq_true,Bool.not_eq_true',decide_eq_true_eq,List.any_append,List.any_cons,List.any_nil,hx]at hl⊢;rw[List.length_append,List.length_singleton];rw[hl.1];simp only[Bool.not_true,Bool.or_false,Bool.not_false,Bool.true_and];exact decide_eq_decide.2 (by omega)
def HI{α:Type}{l:List α}{i:Int}{e:α}(h:nA l i=some e):e∈l:=by
 unfold nA at h;split at h
 ·exact List.mem_of_getElem? h
 ·cases h
def HS{w:Aa}{l:List Ak}{ns:List Ad}(hs:fE w.Seen=true)(hl:∀x∈l,lE x=true):Ag (Bb ⟨w.Now,w.Clients,w.S,w.D,w.Seen,w.Known,w.Notes++ns⟩ l) (Cd w l ns):=by
 unfold Bb Cd
 (try simp only[lA])
 simp only[aA];refine .pl λ_=>Ag.lr (λx y=>x.1=y.1∧fE y.2.Seen=true∧x.2=⟨y.2.Now,y.2.Clients,y.2.S,y.2.D,y.2.Seen,y.2.Known,w.Notes++ns⟩∧y.2.Notes=w.Notes) ⟨rfl,hs,rfl,rfl⟩ (λx y k k' ⟨h1,h2,h3,h4⟩ hk=>?_) _;rw[h1];refine .cc (λ_=> .bl λe he=> .bl λr hr=>?_) λ_=> .gr λ_=> .s (by rw[h3,h4]);have hr:=zvf r hr;have hm:=HI he;have h5:x.2.Seen=y.2.Seen:=by rw[h3]
 rw[h5,ziC h2 (hl _ hm)]at hr;refine .cr (λh=>?_) λh=>hk _ _ ⟨rfl,h2,?_,h4⟩
 ·rw[h,cond_true]at hr;refine .bR he (.gr λ_=>hk _ _ ⟨rfl,?_,?_,h4⟩)
  ·show fE (y.2.Seen++[e])=true
   rw[ziC h2 (hl _ hm)];exact h
  ·rw[hr,h3]
 ·rw[h,cond_false]at hr;rw[hr,h3]
def zc3{w:Aa}{i:Int}{c:Ae}{fs:List Ab}{ns:List Ad}(hs:fE w.Seen=true)(hc:dB c=true)(hf:wt fs≤400):
  Ag (cond (decide (0≤i)&&decide (i<(w.Clients.length:Int))) (ob (w.Clients[i.toNat]?) λ_=>cond (decide (w.Notes.length+ns.length≤bA)) (ob (Ci c fs) λr24=>ob (Bb ⟨w.Now,List.set w.Clients i.toNat c,w.S,w.D,w.Seen,w.Known,w.Notes++ns⟩ r24) λr53=>some (r53,true)) none) none)
  (ob (Dj w i c fs ns) λr=>some (r,true)):=by
 unfold Dj
 (try simp only[bc,ba,bs,bn])
 refine .gl λ_=> .cr (λ_=> .bd inferInstance λ_ _ _=> .gl λ_=> .bd inferInstance λr hr _=> .b (HS (w:=⟨w.Now,List.set w.Clients i.toNat c,w.S,w.D,w.Seen,w.Known,w.Notes⟩) hs ?_) λ_ _ _=> .r0) λ_=> .nr;obtain⟨q,hq,_,h⟩:=@CV c fs (by have:=(ID hc).1;omega) (by omega);cases hq.symm.trans hr;exact λx hx=>((h (zc9 hc)).1 x hx).1
def zuj{n:Int}(h:0≤n∧n≤255):GA (aC n)=true:=by
 unfold aC;rw[if_pos h];simp only[GA,Bool.and_eq_true,Bool.or_eq_true,uB,beq_iff_eq];omega
def zcN{w:Aa}{b:Bool}:Ag (ob (Bb w []) λr=>some (r,b)) (some (w,b)):=by
 have h:Pc (Bb w []) λr=>r=w:=by
  unfold Bb
  (try simp only[lA])
  refine .p λ_=> .j (.l (λx=>x=(0,w)) rfl (λx k hx hk=>?_) _);subst hx;exact .s rfl
 exact .bl λr hr=> .s (by rw[h r hr])
def zsw{c:Ae}:Pc (Ci c []) λr=>r=[]:=by
 unfold Ci
 (try simp only)
 refine .j (.l (λx=>x=([],0)) rfl (λx k hx hk=>?_) _);subst hx;exact .s rfl
def zkV:Pc (Dv []) λr=>r=[]:=by
 unfold Dv
 (try simp only)
 refine .j (.l (λx=>x=([],0)) rfl (λx k hx hk=>?_) _);subst hx;exact .s rfl
def ztQ{s:Ac}(hs:BB s=true):Pc (Gi s) λr=>((r.2.length:Int)==0)= !decide (s.D.N<10000):=by
 unfold Gi
 (try simp only[lA,FD,CD,yA,CC])
 have hd:=(IE.1 hs).dice;simp only[YB,Bool.and_eq_true,uB]at hd;refine .p λ_=> .j (.p λ_=> .c (λh=>by rw[hs]at h;cases h) λ_=>?_);cases h:s.D.N==10000
 ·refine .p λ_=> .p λ_=> .p λ_=> .s ?_;rw[decide_eq_true (by have:=beq_eq_false_iff_ne.1 h;omega)];rfl
 ·refine .s ?_;rw[decide_eq_false (by have:=beq_iff_eq.1 h;omega)];rfl
def gV{a0:Aa}{a1:Int}{a2:Af}{a3:List UInt8}(ha:ZA a0=true)(hn:wt a0≤400000000)(h:0≤a1∧a1≤2)(hf:GA a2=true)(hb:wt a3≤900000000):
  Ag (ob (Bf a0 a1 a2 a3) λv=>ob (Bb v.1 v.2) λr=>some (r,true)) (ob (Cz a0 a1 a2 a3) λr=>some (r,true)):=by
 unfold Cz
 (try simp only[ba,bs])
 refine .bM (λr=>(r.2,r.1)) (zup ha (uB.2 h) hf) λv hv=>?_;obtain⟨q,hq,E⟩:=@zfr a0 a1 a2 a3 ha hn h.1 h.2 hb;cases hq.symm.trans hv;have:=HS (w:=v.1) (ns:=[]) (SB.1 E.ok).seen E.wires;rw[List.append_nil]at this;exact .b this λ_ _ _=> .r0
def zkf{w:Aa}{c:Am}:Ag (ob (Iq c) λv=>cond (decide (w.Known.length+v.length≤bA)) (ob (pt (wt c.Sn≤bA) c.Sn) λs=>cond (decide (w.Notes.length+[(⟨13,0,0,[],s,0,0,[],[],(⟨0,0⟩:Af),0⟩:Ad)].length≤bA)) (cond (!decide (((w.Known++v).length:Int)≤12)) (some (w,false)) (ob (Bb ⟨w.Now,w.Clients,w.S,w.D,w.Seen,w.Known++v,w.Notes++[(⟨13,0,0,[],s,0,0,[],[],(⟨0,0⟩:Af),0⟩:Ad)]⟩ []) λr=>some (r,true))) none) none)
  (ob (Fq w c) λr=>some (cond r.1 r.2 w,r.1)):=by
 unfold Fq
 (try simp only[List.nil_append,ba,bc,bs,bn])
 refine .bd inferInstance λv hv _=> .gl λh1=> .pl λ_=> .gl λ_=> .ce ?_ (λ_=> .r0) λ_=> .gr λ_=> .gr λ_=> .gr λ_=>zcN;have h1:=of_decide_eq_true h1;have:=mB;rw[DA (by omega) (by omega),List.length_append, ←decide_not];exact decide_eq_decide.2 (by omega)
def zlh{a0 a1}(ha:ZA a0=true)(hn:wt a0≤400000000)(hw:wt a1≤300000)(he:PF a1=true)(hl:decide ((a0.Notes.length:Int)>500)=false):Ag (Ev a0 a1) (ob (Hw a0 a1) λr=>some (cond r.1 r.2 a0,r.1)):=by
 have hp:∀{α:Type} (v:α),pt (wt a0≤bA) v=some v:=λ_=>oA (by have:=mB;omega);have W:=SB.1 ha;have hs:=W.seen;have hf:=fM he;have F:=UJ ha
 have hP:∀a,sM a0 a≤2:=λa=>by
  obtain⟨q,hq,_,h⟩:=@iU a0 a (by have:=mB;omega) F.2.2.2.2.2.1;cases(hp _).symm.trans hq;exact h
 simp only[TO]at F;have hj:0≤zA .i64 a1.J 3∧zA .i64 a1.J 3<3:=yH (by omega) (by omega);have PW:0≤zA .i64 a1.N 256∧zA .i64 a1.N 256<256:=yH (by omega) (by omega);have o8:=zuj (n:=zA .i64 a1.N 256) ⟨PW.1,by omega⟩
 have hX:∀x∈a0.Seen,GA x.From=true∧wt x.B≤900000000:=λx hx=>by
  have h1:=hs;simp only[fE,Bool.and_eq_true,Bool.not_eq_true',List.any_eq_false]at h1;have:=h1.1 x hx;simp only[lE,Bool.and_eq_true,decide_eq_true_eq]at this;exact⟨by grind,by simp only[N];grind⟩
 have hk:a1.Kind=1∨a1.Kind=2∨a1.Kind=3∨a1.Kind=4∨a1.Kind=5∨a1.Kind=6∨a1.Kind=7∨a1.Kind=8∨a1.Kind=9∨a1.Kind=10∨a1.Kind=11∨a1.Kind=12∨a1.Kind=13∨a1.Kind=14∨a1.Kind=15∨a1.Kind=16∨a1.Kind=17:=by omega
 unfold Ev Hw Ib Ip Ir Io
 (try simp only[lA,FD,CD,bc,ba,bn,dI,yA,bs,eE,List.nil_append])
 rcases hk with h | h | h | h | h | h | h | h | h | h | h | h | h | h | h | h | h
 all_goals simp(config:={decide:=false}) only[h,hp,ha,he,hl,aA,Bool.not_true,Bool.not_false,cond_true,cond_false,Int.reduceBEq,ge_iff_le,Int.reduceLE,decide_true,decide_false,beq_self_eq_true,ba,bs,bc,bn,bne]
 ·refine .cl (λhc1=> .bl λc hc=> .pl λz5=> .pl λt9=> .gl λhp3=>?_) λ_=> .nl;refine .pr λ_=> .ct hc1 (.bR hc (.bd inferInstance λv hv _=> .cr (λh1=>?_) λh1=> .pr λ_=> .gr λ_=>?_))
  ·simp only[h1,cond_true];exact .gl λ_=> .bl λ_ _=> .gl λ_=> .bl λ_ _=> .r0
  ·simp only[h1,cond_false];obtain⟨q,hq,p1,p2,p3,p4,p5⟩:=@zed c a0.Now (QC a0.D).2 (AH ha (List.mem_of_getElem? hc)) (by have:=(PI a0.D).2.1;omega);cases hq.symm.trans hv;exact zc3 (w:=⟨a0.Now,a0.Clients,a0.S,(QC a0.D).1,a0.Seen,a0.Known,a0.Notes++[xE (QC a0.D).2]⟩) hs p1 p5.2
 ·refine .cc (λ_=> .bd inferInstance λc hc _=> .bd inferInstance λv hv _=> .cr (λh1=>?_) λh1=>?_) λ_=> .nr
  ·simp only[h1,cond_true];exact .gl λ_=> .bl λ_ _=> .gl λ_=> .bl λ_ _=> .r0
  ·simp only[h1,cond_false];obtain⟨q,hq,p1,p2,p3,p4,p5⟩:=@zdw c a0.Now a1.B (AH ha (List.mem_of_getElem? hc)) (by omega);cases hq.symm.trans hv;exact zc3 hs p1 p5.2
 ·refine .bd inferInstance λv hv _=> .gl λ_=> .cr (λh1=>?_) λh1=> .bd inferInstance λl hl _=>?_
  ·simp only[h1,cond_true];exact .bl λ_ _=> .r0
  ·simp only[h1,cond_false];obtain⟨q,hq,p1,p2,p3,p4,p5⟩:=@zgN a0.S a0.Now a1.I a1.B W.srv (by simp only[N];omega);cases hq.symm.trans hv;obtain⟨q,hq,_,p6⟩:=@zdL v.2.1 (by omega) p3;cases hq.symm.trans hl;exact .b (HS (w:=⟨a0.Now,a0.Clients,v.1,a0.D,a0.Seen,a0.Known,a0.Notes⟩) hs λx hx=>(p6 x hx).1) λ_ _ _=> .r0
 ·have hN:=uB.1 W.now;refine .cr (λh1=> .bl λ_ _=>?_) λh1=> .bM (λr=>(r.2,r.1)) (zuh ha h1) λv hv=>?_
  ·rw[decide_eq_false (by have:=beq_iff_eq.1 h1;omega)];exact .r0
  ·rw[decide_eq_true (by have:=beq_eq_false_iff_ne.1 h1;omega)];obtain⟨q,hq,E⟩:=@zj3 a0 ha hn;cases hq.symm.trans hv;have:=HS (w:=v.1) (ns:=[]) (SB.1 E.ok).seen E.wires;rw[List.append_nil]at this;exact .b this λ_ _ _=> .r0
 ·refine .cc (λ_=> .bd inferInstance λc hc _=> .bd inferInstance λv hv _=> .cc (λ_=> .bd inferInstance λ_ _ _=> .gl λ_=> .bl λl hl=>?_) λ_=> .nr) λ_=> .nr;rw[zsw l hl,List.append_nil];exact zcN
 ·refine .cc (λ_=> .bd inferInstance λc hc _=> .bd inferInstance λv hv _=> .cr (λh1=>?_) λh1=>?_) λ_=> .nr
  ·simp only[h1,cond_true];exact .gl λ_=> .bl λ_ _=> .gl λ_=> .bl λ_ _=> .r0
  ·simp only[h1,cond_false];obtain⟨q,hq,p1,p2,p3,p4,p5⟩:=@zdv c a0.Now (AH ha (List.mem_of_getElem? hc));cases hq.symm.trans hv;exact zc3 hs p1 p5.2
 ·refine .cc (λ_=> .r0) λ_=> .cc (λ_=> .r0) λ_=> .bl λx hx=> .pl λz5=> .gr λ_=> .bI hx (.cc (λ_=> .r0) λh1=>?_);obtain⟨f1,f2⟩:=hX x (HI hx);exact gV ha hn ⟨by have:=of_decide_eq_false h1;omega,hP x.To⟩ f1 f2
 ·refine .cc (λ_=> .r0) λ_=> .cc (λ_=> .r0) λ_=> .bl λx hx=> .pl λz5=> .gr λ_=> .bI hx ?_;exact gV ha hn ⟨by omega,by omega⟩ o8 (hX x (HI hx)).2
 ·refine .cc (λ_=> .r0) λ_=> .cc (λ_=> .r0) λ_=> .bl λx hx=> .pl λz5=> .gr λ_=> .bI hx ?_;obtain⟨f1,f2⟩:=hX x (HI hx);rw[decide_eq_false (by omega)];exact gV ha hn ⟨hj.1,by omega⟩ f1 f2
 ·refine .cc (λ_=> .r0) λ_=> .cc (λ_=> .r0) λ_=> .bl λx hx=> .pl λz5=> .gr λ_=> .bI hx ?_;obtain⟨f1,f2⟩:=hX x (HI hx);refine .cr (λh1=>?_) λh1=>?_
  ·simp only[h1,cond_true];exact .cl (λ_=> .r0) λ_=> .cl (λ_=> .nl) λ_=> .gl λ_=> .bl λ_ _=> .gl λ_=> .bl λ_ _=> .r0
  ·simp only[h1,cond_false];exact .cc (λ_=> .r0) λ_=> .gr λ_=> .cc (λ_=> .r0) λ_=> .cc (λ_=> .bd inferInstance λv _ _=> .cc (λ_=> .bd inferInstance λ_ _ _=>gV ha hn ⟨by have:=of_decide_eq_false h1;omega,hP x.To⟩ f1 (by simp only[N,List.length_set]at f2⊢;exact f2)) λ_=> .r0) λ_=> .r0
 ·refine .bd inferInstance λv hv _=> .cr (λh1=>?_) λh1=>?_
  ·simp only[h1,cond_true];exact .bl λ_ _=> .r0
  ·simp only[h1,cond_false];obtain⟨q,hq,p⟩:=@zd6 a1.Ops a0.Seen a0.Known (by simp only[N]at hw⊢;omega) (by omega) (by omega);cases hq.symm.trans hv;exact gV ha hn ⟨hj.1,by omega⟩ o8 (by simp only[N];omega)
 ·refine .bd inferInstance λv hv _=> .gl λ_=> .bl λl hl=>?_;rw[zkV l hl, ←ztQ W.srv v hv];exact .cc (λ_=> .r0) λ_=> .b (HS (w:=⟨a0.Now,a0.Clients,v.1,a0.D,a0.Seen,a0.Known,a0.Notes⟩) hs nofun) λ_ _ _=> .r0
 ·refine .cc (λh0=> .bl λc hc=> .bR hc (.cl (λh1=> .ct h1 ?_) λh1=> .cf h1 (.ct h0 (.bR hc (.bd inferInstance λv hv _=>?_))))) λ_=> .nr
  ·exact .bl λ_ _=> .gl λ_=> .bl λ_ _=> .gl λ_=> .bl λ_ _=> .r0
  ·obtain⟨q,hq,p1,_⟩:=@zea c (AH ha (List.mem_of_getElem? hc));cases hq.symm.trans hv;exact zc3 hs p1 (Nat.zero_le _)
 ·refine .bd inferInstance λv hv _=> .gl λ_=> .bl λl hl=>?_;rw[zkV l hl];exact .cc (λ_=> .r0) λ_=> .b (HS (w:=⟨a0.Now,a0.Clients,v.1,a0.D,a0.Seen,a0.Known,a0.Notes⟩) hs nofun) λ_ _ _=> .r0
 ·refine .cc (λh0=> .bl λc hc=> .bR hc ?_) λ_=> .nr;cases c.St==3
  ·exact .r0
  ·exact .ct rfl (.ct h0 (.bR hc zkf))
 ·refine .cl (λh0=> .cf (decide_eq_false (by have:=of_decide_eq_true h0;omega)) .r0) λh0=> .ct (decide_eq_true (by have:=of_decide_eq_false h0;omega)) (.gl λ_=> .bl λe hx=> .bJ hx ?_);cases e.Dead
  ·exact .gl λ_=> .bl λe hx=> .bJ hx zkf
  ·exact .r0
 ·exact .cc (λ_=> .bd inferInstance λv _ _=>zcN) λ_=> .bd inferInstance λv _ _=>zcN
end Go.D

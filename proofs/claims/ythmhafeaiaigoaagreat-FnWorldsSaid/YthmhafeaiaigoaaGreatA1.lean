/-
 The two machines agree.
-/
import Derived.Test.YthmhafeaiaigoaaGreatX1
set_option linter.all false
namespace Go.D
set_option maxHeartbeats 2000000
instance{a0}:MA (Bj a0) (Bg a0):=⟨by unfold Bg Bj;simp only[zgV];((try simp only[TC,zab,VB,cT,zgz]);repeat' (first | (with_reducible first | intro _ | exact .r0 | apply nB | apply lC | apply RB | apply gB | refine .ct ‹_› ?_ | refine .cf ‹_› ?_) | (with_reducible first | apply oC | apply QG) | (refine .s ?_;grind [oA,PA,eA,MB,tC,List.length_eq_zero_iff,zlw]) | dsimp only[cond_true,cond_false]));(refine Ag.lI (λx=>∃i:Nat,x=(λi:Nat=>([UInt8.ofNat (IntKind.u8.wrap a0.Kind).toNat]++[UInt8.ofNat (IntKind.u8.wrap a0.Id).toNat]++a0.Cn++List.replicate i 0,(i:Int))) i∧i≤20) ⟨0,by first | rfl | simp,by decide⟩ (λx k hx hk=>?_) _;obtain⟨i,hx,h2⟩:=hx;have hi:(i:Int)<20→iA .i64 (i:Int) 1=((i+1:Nat):Int):=λh=>(by rw[AA (by omega) (by omega)];omega);subst hx;refine .cr (λhc=> .gr λ_=>hk _ ⟨i+1,?_,?_⟩) λhc=>?_;(· simp only[B]at hc;simp[hi hc,List.replicate_succ']);(· simp only[B]at hc;omega);have he:i=20:=(by simp only[B]at hc;omega);subst he;try dsimp only);(repeat' ((refine .s ?_;grind [oA,PA,eA,MB,tC,List.length_eq_zero_iff])))⟩
instance{a0 a1 a2}:MA (Ec a0 a1 a2) (Fx a0 a1 a2):=⟨by unfold Fx Ec;(repeat' ((with_reducible first | intro _ | exact .r0 | refine .bd inferInstance ?_)))⟩
instance{a0 a1}:MA (Ed a0 a1) (Cp a0 a1):=⟨by unfold Cp Ed;((try simp only);repeat' ((with_reducible first | intro _ | exact .r0 | refine .bd inferInstance ?_ | apply AD | apply RB | apply gB | apply DL | apply OC | (apply_assumption;done))))⟩
instance{a0}:MA (Bf a0) (Bf a0):=⟨.r0⟩
instance{a0}:MA (Fb a0) (Fv a0):=⟨by unfold Fv Fb;((try simp only[BA,List.nil_append]);repeat' ((with_reducible first | intro _ | exact .r0 | apply nB | apply RB)))⟩
instance{a0 a1 a2}:MA (Fc a0 a1 a2) (Ko a0 a1 a2):=⟨by unfold Ko Fc;((try simp only[nA,BA,GD,List.nil_append]);repeat' ((with_reducible first | intro _ | exact .r0 | apply nB | apply lC | refine .bd inferInstance ?_ | apply RB | apply gB | apply OC | (apply_assumption;done))))⟩
instance{a0 a1 a2 a3}:MA (Ce a0 a1 a2 a3) (Eo a0 a1 a2 a3):=⟨by unfold Eo Ce;((try simp only[VB,zab]);repeat' (first | (with_reducible first | intro _ | exact .r0 | apply nB | apply lC | apply RB | apply gB | apply OC | (apply_assumption;done) | apply oC | refine .ct ‹_› ?_ | refine .cf ‹_› ?_ | apply fG) | (refine .s ?_;rfl) | (refine .kk ‹_› ?_;grind [oA,PA,eA])))⟩
instance{a0 a1 a2}:MA (Gk a0 a1 a2) (Hv a0 a1 a2):=⟨by unfold Hv Gk;((try simp only[zgI,VB]);repeat' ((with_reducible first | intro _ | exact .r0 | apply nB | apply lC | apply RB | apply gB | apply OC | (apply_assumption;done))))⟩
instance{a0 a1 a2}:MA (Fa a0 a1 a2) (Hw a0 a1 a2):=⟨by unfold Hw Fa;((try simp only[BA,List.nil_append]);repeat' ((with_reducible first | intro _ | exact .r0 | apply nB | refine .bd inferInstance ?_ | apply AD | apply RB | apply gB | apply DL | apply OC | (apply_assumption;done))))⟩
instance{a0 a1 a2}:MA (Ea a0 a1 a2) (Eq a0 a1 a2):=⟨by unfold Eq Ea;((try simp only);repeat' (first | (with_reducible first | intro _ | apply eF | apply iF | exact .r0 | refine .bd inferInstance ?_ | apply AD | apply RB | apply gB | apply DL | apply OC | (apply_assumption;done)) | (with_reducible refine Ag.cr (λ_=>?_) (λ_=>?_)<;>try (exfalso;grind (splits:=3) [oA,PA,eA,zg8, →zfK];done)) | (with_reducible first | apply qD | apply oC | refine .bR ‹_› ?_ | apply FE) | (refine .kk ‹_› ?_;grind [oA,PA,eA,zg8, →zfK]) | (exfalso;grind [oA,PA,eA,zg8, →zfK])))⟩
instance{a0 a1}:MA (Bv a0 a1) (Cm a0 a1):=⟨by unfold Cm Bv;((try simp only[zab,TC]);repeat' (first | (with_reducible first | intro _ | exact .r0 | apply nB | refine .bd inferInstance ?_ | apply RB | apply gB | apply OC | (apply_assumption;done) | apply oC | apply fG) | (refine .kk ‹_› ?_;grind [oA,PA,eA])))⟩
instance{a0 a1}:MA (Ct a0 a1) (Cb a0 a1):=⟨by unfold Cb Ct;((try simp only[BA,List.nil_append]);repeat' (first | (with_reducible first | intro _ | exact .r0 | apply nB | apply AD | apply RB | apply oC | apply fG) | (refine .s ?_;grind [oA,PA,eA,MB,tC,List.length_eq_zero_iff])))⟩
instance{a0 a1 a2 a3 a4 a5 a6}:MA (Eb a0 a1 a2 a3 a4 a5 a6) (Dq a0 a1 a2 a3 a4 a5 a6):=⟨by unfold Dq Eb;rw[show List.replicate (16:Int).toNat (UInt8.ofNat (0:Int).toNat)=List.replicate 16 0 from rfl];((try simp only[BA,TC,List.nil_append]);repeat' (first | (with_reducible first | intro _ | apply eF | apply iF | exact .r0 | apply nB | refine .bd inferInstance ?_ | apply RB | refine .ct ‹_› ?_ | refine .cf ‹_› ?_) | (with_reducible refine Ag.cr (λ_=>?_) (λ_=>?_)<;>try (exfalso;grind (splits:=3) [oA,PA,eA, →zfA,AB,dG];done)) | (with_reducible first | apply qD | apply oC | apply QG | apply FE) | (exfalso;grind [oA,PA,eA, →zfA,AB,dG]) | dsimp only[cond_true,cond_false]));all_goals ((refine Ag.lI (λx=>∃i:Nat,x=(λi:Nat=>((i:Int),(⟨a5,0,[],a2,0,[],[],a3,a4,_,List.replicate i 0⟩:Ab))) i∧i≤16) ⟨0,by first | rfl | simp,by decide⟩ (λx k hx hk=>?_) _;obtain⟨i,hx,h2⟩:=hx;have hi:(i:Int)<16→iA .i64 (i:Int) 1=((i+1:Nat):Int):=λh=>(by rw[AA (by omega) (by omega)];omega);subst hx;refine .cr (λhc=> .gr λ_=>hk _ ⟨i+1,?_,?_⟩) λhc=>?_;(· simp only[B]at hc;simp[hi hc,List.replicate_succ']);(· simp only[B]at hc;omega);have he:i=16:=(by simp only[B]at hc;omega);subst he;try dsimp only);(repeat' (first | (with_reducible first | intro _ | exact .r0) | with_reducible refine .bT inferInstance ‹_› ?_)))⟩
instance{a0 a1 a2 a3 a4}:MA (Gm a0 a1 a2 a3 a4) (Er a0 a1 a2 a3 a4):=⟨by unfold Er Gm;((try simp only[nA]);repeat' (first | (with_reducible first | intro _ | apply eF | apply iF | exact .r0 | apply nB | apply lC | apply gB | refine .ct ‹_› ?_ | refine .cf ‹_› ?_) | (with_reducible refine Ag.cr (λ_=>?_) (λ_=>?_)<;>try (exfalso;grind (splits:=3) [oA,PA,eA, →zl9, →zfA,AB,dG,YC];done)) | (with_reducible first | apply qD | apply oC | refine .bT inferInstance ‹_› ?_ | apply FE)))⟩
instance{a0 a1 a2}:MA (Cg a0 a1 a2) (Bs a0 a1 a2):=⟨by unfold Bs Cg;cases a0;((try simp only[nA,uC]);repeat' (first | (with_reducible first | intro _ | exact .r0 | apply nB | apply lC | refine .bd inferInstance ?_ | apply gB) | with_reducible apply fG | with_reducible apply QG | (refine .s ?_;grind [oA,PA,eA,MB,tC,List.length_eq_zero_iff, →zkJ])))⟩
instance{a0 a1}:MA (Ee a0 a1) (Es a0 a1):=⟨by unfold Es Ee;((try simp only[BA,List.nil_append]);repeat' ((with_reducible first | intro _ | exact .r0 | apply nB | apply RB)))⟩
instance{a0 a1}:MA (Bp a0 a1) (Bt a0 a1):=⟨by unfold Bt Bp;(repeat' ((with_reducible first | intro _ | exact .r0 | refine .bd inferInstance ?_)))⟩
instance{a0 a1 a2}:MA (Gn a0 a1 a2) (Kp a0 a1 a2):=⟨by unfold Kp Gn;((try simp only[nA,BA,GD,List.nil_append]);repeat' ((with_reducible first | intro _ | exact .r0 | apply nB | apply lC | refine .bd inferInstance ?_ | apply RB | apply gB | apply OC | (apply_assumption;done))))⟩
instance{a0}:MA (Dl a0) (Dl a0):=⟨.r0⟩
instance{a0}:MA (Bk a0) (Bk a0):=⟨.r0⟩
instance{a0}:MA (Fe a0) (Fw a0):=⟨by unfold Fw Fe;((try simp only[nA,uC]);repeat' ((with_reducible first | intro _ | exact .r0 | apply nB | apply lC | refine .bd inferInstance ?_ | apply gB | apply OC | (apply_assumption;done))))⟩
instance{a0 a1}:MA (Gw a0 a1) (Kq a0 a1):=⟨by unfold Kq Gw;((try simp only[nA,GD]);repeat' ((with_reducible first | intro _ | exact .r0 | apply nB | apply lC | refine .bd inferInstance ?_ | apply gB | apply OC | (apply_assumption;done))))⟩
instance{a0 a1}:MA (Ci a0 a1) (Ci a0 a1):=⟨.r0⟩
instance{a0}:MA (Hm a0) (Kr a0):=⟨by unfold Kr Hm Dr Co Dk;((try simp only[GD,nA,BA,ba,bs,XI,List.nil_append]);repeat' (first | (with_reducible first | intro _ | exact .r0 | apply nB | apply lC | apply RB | apply gB) | with_reducible apply fG | with_reducible apply oC | (refine .s ?_;grind [oA,PA,eA,MB,tC,List.length_eq_zero_iff,zh3])))⟩
instance{a0}:MA (Dp a0) (Dp a0):=⟨.r0⟩
instance{a0 a1 a2}:MA (Fg a0 a1 a2) (Hy a0 a1 a2):=⟨by unfold Hy Fg;generalize (oB a0 a1).toNat=n;((try simp only[nA,List.nil_append]);repeat' (first | (with_reducible first | intro _ | apply eF | apply iF | exact .r0 | apply nB | refine .bd inferInstance ?_ | apply AD | apply RB | apply gB) | (with_reducible refine Ag.cr (λ_=>?_) (λ_=>?_)<;>try (exfalso;grind (splits:=3) [oA,PA,eA,aE,NI,List.set_set];done)) | (with_reducible first | apply zhf | apply qD | apply oC | apply QG | refine .bR ‹_› ?_ | apply FE) | (refine .s ?_;grind [oA,PA,eA,MB,tC,List.length_eq_zero_iff,aE,NI,List.set_set])))⟩
instance{a0}:MA (Ef a0) (Db a0):=⟨by exact zrZ⟩
instance{a0 a1}:MA (Dm a0 a1) (Dc a0 a1):=⟨by unfold Dc Dm;((try simp only);repeat' ((with_reducible first | intro _ | exact .r0 | apply gB | apply DL | apply OC | (apply_assumption;done) | apply qD | apply oC | refine .bR ‹_› ?_ | refine .ct ‹_› ?_ | refine .cf ‹_› ?_)))⟩
instance{a0}:MA (Em a0) (Dv a0):=⟨by unfold Dv Em;(repeat' ((with_reducible first | intro _ | exact .r0 | refine .bd inferInstance ?_)))⟩
instance{a0 a1}:MA (By a0 a1) (By a0 a1):=⟨.r0⟩
instance{a0 a1 a2}:MA (Do a0 a1 a2) (Dw a0 a1 a2):=⟨by unfold Dw Do;((try simp only[nA,List.nil_append]);repeat' ((with_reducible first | intro _ | exact .r0 | apply nB | apply RB | apply gB | apply OC | (apply_assumption;done) | apply qD | apply oC | refine .bT inferInstance ‹_› ?_ | refine .ct ‹_› ?_ | refine .cf ‹_› ?_ | apply fG)))⟩
instance{a0 a1}:MA (Gx a0 a1) (Hz a0 a1):=⟨by unfold Hz Gx;((try simp only[BA,VB,List.nil_append]);repeat' ((with_reducible first | intro _ | exact .r0 | apply nB | apply RB | apply gB)))⟩
instance{a0 a1 a2 a3 a4}:MA (Eg a0 a1 a2 a3 a4) (Et a0 a1 a2 a3 a4):=⟨by unfold Et Eg;((try simp only[VB,cT]);repeat' (first | (with_reducible first | intro _ | exact .r0 | apply nB | apply lC | refine .bd inferInstance ?_ | apply RB | apply gB | apply OC | (apply_assumption;done) | apply oC | apply fG) | (refine .s ?_;rfl) | (refine .kk ‹_› ?_;grind [oA,PA,eA])))⟩
instance{a0 a1 a2 a3 a4 a5}:MA (Fi a0 a1 a2 a3 a4 a5) (Fz a0 a1 a2 a3 a4 a5):=⟨by unfold Fz Fi;(repeat' ((with_reducible first | intro _ | exact .r0 | refine .bd inferInstance ?_ | apply gB | apply OC | (apply_assumption;done))))⟩
instance{a0 a1 a2}:MA (Fh a0 a1 a2) (Fy a0 a1 a2):=⟨by unfold Fy Fh;(repeat' ((with_reducible first | intro _ | exact .r0 | refine .bd inferInstance ?_ | apply gB | apply OC | (apply_assumption;done))))⟩
instance{a0}:MA (Fn a0) (Gc a0):=⟨by unfold Gc Fn;((try simp only[nA,uC]);repeat' ((with_reducible first | intro _ | exact .r0 | apply nB | apply lC | refine .bd inferInstance ?_ | apply gB | apply OC | (apply_assumption;done))))⟩
instance{a0}:MA (Hc a0) (Ev a0):=⟨by unfold Ev Hc;((try simp only[nA,KD]);repeat' ((with_reducible first | intro _ | exact .r0 | apply nB | apply lC | refine .bd inferInstance ?_ | apply gB | apply OC | (apply_assumption;done))))⟩
instance{a0}:MA (Cj a0) (Cj a0):=⟨.r0⟩
instance{a0 a1}:MA (Bz a0 a1) (Bz a0 a1):=⟨.r0⟩
instance{a0 a1 a2}:MA (Ha a0 a1 a2) (Ic a0 a1 a2):=⟨by unfold Ic Ha;((try simp only[zgI,List.nil_append]);repeat' (first | (with_reducible first | intro _ | exact .r0 | apply nB | refine .bd inferInstance ?_ | apply RB | apply gB | apply OC | (apply_assumption;done) | apply oC | apply fG) | (refine .kk ‹_› ?_;grind [oA,PA,eA])))⟩
instance{a0}:MA (Cy a0) (Cy a0):=⟨.r0⟩
instance{a0 a1}:MA (Hb a0 a1) (Ie a0 a1):=⟨by unfold Ie Hb;((try simp only[BA,ME,List.nil_append]);repeat' ((with_reducible first | intro _ | exact .r0 | apply nB | apply RB | apply gB)))⟩
instance{a0 a1 a2 a3}:MA (Fk a0 a1 a2 a3) (Ga a0 a1 a2 a3):=⟨by unfold Ga Fk;(repeat' (first | (with_reducible first | intro _ | exact .r0 | refine .bd inferInstance ?_ | apply gB) | (refine .s ?_;grind [oA,PA,eA,MB,tC,List.length_eq_zero_iff])))⟩
instance:MA (Fl) (Kv):=⟨by unfold Kv Fl;(repeat' (first | with_reducible apply QG | dsimp only[cond_true,cond_false]));(refine Ag.lI (λx=>∃i:Nat,x=(λi:Nat=>((i:Int),(⟨-1,List.replicate i 0⟩:Aq))) i∧i≤32) ⟨0,by first | rfl | simp,by decide⟩ (λx k hx hk=>?_) _;obtain⟨i,hx,h2⟩:=hx;have hi:(i:Int)<32→iA .i64 (i:Int) 1=((i+1:Nat):Int):=λh=>(by rw[AA (by omega) (by omega)];omega);subst hx;refine .cr (λhc=> .gr λ_=>hk _ ⟨i+1,?_,?_⟩) λhc=>?_;(· simp only[B]at hc;simp[hi hc,List.replicate_succ']);(· simp only[B]at hc;omega);have he:i=32:=(by simp only[B]at hc;omega);subst he;try dsimp only);(repeat' ((refine .s ?_;grind [oA,PA,eA,MB,tC,List.length_eq_zero_iff])))⟩
instance{a0 a1}:MA (Ca a0 a1) (De a0 a1):=⟨by unfold De Ca;((try simp only[BA,List.nil_append]);repeat' ((with_reducible first | intro _ | exact .r0 | apply nB | refine .bd inferInstance ?_ | apply RB | apply gB | apply OC | (apply_assumption;done))))⟩
instance{a0 a1 a2}:MA (Ei a0 a1 a2) (Gb a0 a1 a2):=⟨by unfold Gb Ei;((try simp only[BA,List.nil_append]);repeat' (first | (with_reducible first | intro _ | exact .r0 | apply nB | refine .bd inferInstance ?_ | apply RB | apply gB | apply OC | (apply_assumption;done) | apply oC | apply fG) | (refine .kk ‹_› ?_;grind [oA,PA,eA])))⟩
instance{a0 a1 a2 a3}:MA (Fm a0 a1 a2 a3) (Eu a0 a1 a2 a3):=⟨by unfold Eu Fm;((try simp only[BA,TC,List.nil_append]);repeat' (first | (with_reducible first | intro _ | exact .r0 | apply nB | refine .bd inferInstance ?_ | apply RB | apply gB | apply OC | (apply_assumption;done) | apply qD | apply oC | refine .bT inferInstance ‹_› ?_ | apply fG) | (refine .kk ‹_› ?_;grind [oA,PA,eA])))⟩
instance{a0 a1}:MA (Bi a0 a1) (Bi a0 a1):=⟨.r0⟩
instance{a0 a1 a2}:MA (Dn a0 a1 a2) (Dt a0 a1 a2):=⟨by unfold Dt Dn;((try simp only[BA,List.nil_append]);repeat' ((with_reducible first | intro _ | exact .r0 | apply nB | apply RB)))⟩
instance{a0}:MA (Bh a0) (Bh a0):=⟨.r0⟩
instance{a0 a1 a2 a3 a4}:MA (Eh a0 a1 a2 a3 a4) (Dd a0 a1 a2 a3 a4):=⟨by unfold Dd Eh;((try simp only[VB,cT]);repeat' (first | (with_reducible first | intro _ | exact .r0 | apply nB | apply lC | apply RB | apply gB | apply OC | (apply_assumption;done) | apply oC | refine .ct ‹_› ?_ | refine .cf ‹_› ?_ | apply fG) | (refine .s ?_;rfl) | (refine .kk ‹_› ?_;grind [oA,PA,eA])))⟩
instance{a0 a1}:MA (Cw a0 a1) (Cw a0 a1):=⟨.r0⟩
instance{a0 a1}:MA (Bq a0 a1) (Bq a0 a1):=⟨.r0⟩
instance{a0 a1}:MA (Bm a0 a1) (Bm a0 a1):=⟨.r0⟩
instance{a0 a1 a2 a3}:MA (Gy a0 a1 a2 a3) (Ia a0 a1 a2 a3):=⟨by unfold Ia Gy;((try simp only[TC]);repeat' (first | (with_reducible first | intro _ | exact .r0 | apply nB | refine .bd inferInstance ?_ | apply gB | apply OC | (apply_assumption;done) | apply oC | apply fG) | (refine .kk ‹_› ?_;grind [oA,PA,eA])))⟩
instance{a0 a1 a2 a3 a4 a5}:MA (Fj a0 a1 a2 a3 a4 a5) (Ds a0 a1 a2 a3 a4 a5):=⟨by unfold Ds Fj;(repeat' ((with_reducible first | intro _ | exact .r0 | refine .bd inferInstance ?_ | apply gB | apply OC | (apply_assumption;done))))⟩
instance{a0 a1}:MA (Gz a0 a1) (Ib a0 a1):=⟨by unfold Ib Gz;((try simp only[TC]);repeat' ((with_reducible first | intro _ | exact .r0 | apply nB | apply gB | apply OC | (apply_assumption;done) | apply qD | apply oC | refine .bT inferInstance ‹_› ?_ | refine .ct ‹_› ?_ | refine .cf ‹_› ?_ | apply fG)))⟩
instance{a0 a1}:MA (Br a0 a1) (Cs a0 a1):=⟨by unfold Cs Br Hd;have h1:=@IA a0.Top 1024;have h2:=@AA (qA .i64 a0.Top 1024) 1;((try simp only[XF,bc,bs]);repeat' (first | (with_reducible first | intro _ | apply eF | apply iF | exact .r0 | apply nB | apply lC | apply gB) | (with_reducible refine Ag.cr (λ_=>?_) (λ_=>?_)<;>try (exfalso;grind (splits:=3) [oA,PA,eA,dD];done)) | with_reducible apply oC | (refine .s ?_;grind [oA,PA,eA,MB,tC,List.length_eq_zero_iff,dD])))⟩
instance{a0 a1}:MA (Ck a0 a1) (Df a0 a1):=⟨by exact ztv⟩
instance{a0 a1 a2}:MA (He a0 a1 a2) (If a0 a1 a2):=⟨by unfold If He;(repeat' ((with_reducible first | intro _ | exact .r0 | refine .bd inferInstance ?_ | apply gB | apply OC | (apply_assumption;done))))⟩
instance{a0 a1 a2}:MA (Cz a0 a1 a2) (Ew a0 a1 a2):=⟨by unfold Ew Cz;((try simp only[nA]);repeat' (first | (with_reducible first | intro _ | apply eF | apply iF | exact .r0 | apply nB | apply lC | refine .bd inferInstance ?_ | apply gB | refine .ct ‹_› ?_ | refine .cf ‹_› ?_) | (with_reducible refine Ag.cr (λ_=>?_) (λ_=>?_)<;>try (exfalso;grind (splits:=3) [oA,PA,eA, →zsG];done)) | (with_reducible first | apply qD | apply oC | refine .bT inferInstance ‹_› ?_ | apply FE)))⟩
instance{a0 a1 a2}:MA (Ej a0 a1 a2) (Dg a0 a1 a2):=⟨by exact zsv (λ_ _ _=>MA.h) (λ_ _=>MA.h)⟩
instance{a0 a1}:MA (Fo a0 a1) (Gd a0 a1):=⟨by unfold Gd Fo;((try simp only[uC,BA,List.nil_append]);repeat' ((with_reducible first | intro _ | exact .r0 | apply nB | apply lC | apply RB | apply gB | apply OC | (apply_assumption;done))))⟩
instance{a0 a1 a2 a3}:MA (Ek a0 a1 a2 a3) (Gf a0 a1 a2 a3):=⟨by exact zuD⟩
instance{a0 a1 a2 a3}:MA (Fp a0 a1 a2 a3) (Ge a0 a1 a2 a3):=⟨by exact zti⟩
instance{a0}:MA (Hf a0) (Ig a0):=⟨by unfold Ig Hf;((try simp only[nA,ME,uC]);repeat' ((with_reducible first | intro _ | exact .r0 | apply nB | apply lC | refine .bd inferInstance ?_ | apply gB | apply OC | (apply_assumption;done))))⟩
instance{a0 a1 a2}:MA (Hg a0 a1 a2) (Ih a0 a1 a2):=⟨by unfold Ih Hg;have h1:=@IA a0.Cur.N 1;((try simp only[nA,uC,FB]);repeat' (first | (with_reducible first | intro _ | apply eF | apply iF | exact .r0 | apply nB | apply lC | refine .bd inferInstance ?_ | apply gB) | (with_reducible refine Ag.cr (λ_=>?_) (λ_=>?_)<;>try (exfalso;grind (splits:=3) [oA,PA,eA,VC];done)) | (with_reducible first | apply qD | apply oC | apply FE) | (refine .s ?_;grind [oA,PA,eA,MB,tC,List.length_eq_zero_iff,VC])))⟩
instance{a0 a1 a2 a3 a4}:MA (Hh a0 a1 a2 a3 a4) (Gg a0 a1 a2 a3 a4):=⟨by unfold Gg Hh Kx;((try simp only[nA,BA,List.nil_append,ba,bc,bs,KD]);repeat' (first | (with_reducible first | intro _ | exact .r0 | apply nB | apply lC | refine .bd inferInstance ?_ | apply AD | apply RB | apply gB | apply OC | (apply_assumption;done) | apply zhf | (apply WM;simp only[ba,bc,bs,bn]) | apply qD | apply oC | apply QG | refine .bT inferInstance ‹_› ?_ | refine .ct ‹_› ?_ | refine .cf ‹_› ?_ | apply FE | apply fG) | (refine .s ?_;grind [oA,PA,eA,MB,tC,List.length_eq_zero_iff])))⟩
instance{a0 a1 a2 a3}:MA (Hj a0 a1 a2 a3) (Ii a0 a1 a2 a3):=⟨by
 unfold Ii Hj
 (try simp only[nA,HC,ZD,TD,List.nil_append,ID,FB,BA,ba])
 refine .pl λ_=> .pr λ_=> .jBl (.jBr (.pl λ_=> .pr λ_=> .cc (λ_=> .r0) λhs=> .cc (λ_=> .r0) λhn=> .cc (λ_=> .r0) λha=> .bd inferInstance λcr hcr _=> .bd inferInstance λfr OW _=>?_));refine Ag.hj (λk k'=>(∀y z,y.1=z.1→y.2.1=z.2.1→y.2.2=z.2.2.1→Ag (k y) (k' z))∧(∀y,y.1=[]→Ag (k y) (some (y.2.2,[],y.2.1)))) ⟨?_,?_⟩ λk k' hk=>?_
 ·rintro⟨o,n,s⟩ ⟨o',n',s',d⟩ e1 e2 e3;cases e1;cases e2;cases e3;exact zw5 (λ_ _=>MA.h) (λ_=>MA.h) (λ_ _ _=>MA.h)
 ·rintro⟨o,n,s⟩ e1;exact .jl (zvy e1 .r0)
 obtain⟨XZ,OZ⟩:=hk;refine .ce (by rfl) (λ_=>OZ _ rfl) λhf=>?_;have S:=YE.1 (by simpa using hs)
 have hD:a0.D.N≤10000:=by
  have:=S.dice;simp only[ZB,Bool.and_eq_true,OB]at this;omega
 have hT:=S.tab;have hfo:=zsy OW (by simpa using hf);have Z6:(MC a0.D).2.length≤100:=by have:=mJ a0.D;omega
 generalize fr.1=f at *;cases h1:(f.Kind==1)
 ·cases h3:(f.Kind==3)
  ·cases h4:fC f.Kind
   ·simp only[aA,cond_true,cond_false];exact XZ _ _ rfl rfl rfl
   ·simp only[aA,cond_true,cond_false];unfold Ky
    (try simp only[nA,HC,ZD,TD,List.nil_append,ID,FB,BA,ba])
    simp only[ba,bc,bs,bn,aA];refine .pl λ_=> .pr λ_=> .cc (λ_=>OZ _ rfl) λhn=> .bd inferInstance λe he _=> .cc (λ_=>OZ _ rfl) λhd=> .pl λ_=> .pr λ_=> .bd inferInstance λm _ _=> .cc (λ_=>?_) λ_=>?_
    ·have hz:([]:List UInt8).length≤100:=by decide
     ((try simp only[nA,HC,ZD,TD,List.nil_append,ID,FB,BA,ba]);repeat' (first | (with_reducible first | intro _ | apply nB | apply lC | refine .bd inferInstance ?_ | apply AD | apply RB | apply gB | refine .ct ‹_› ?_ | refine .cf ‹_› ?_) | (with_reducible refine Ag.cr (λ_=>?_) (λ_=>?_)<;>try (exfalso;grind (splits:=3) [oA,PA,eA, →ZS];done)) | (with_reducible first | (apply WM;simp only[ba,bc,bs,bn]) | apply qD | apply oC | refine .bT inferInstance ‹_› ?_ | refine .bR ‹_› ?_ | refine .bI ‹_› ?_ | apply FE) | (exfalso;grind [oA,PA,eA, →ZS])))
     all_goals first | exact OZ _ rfl | (refine XZ _ _ ?_ ?_ ?_<;>first | rfl | grind [→ZS])
    ·((try simp only[nA,HC,ZD,TD,List.nil_append,ID,FB,BA,ba]);repeat' (first | (with_reducible first | intro _ | apply nB | apply lC | refine .bd inferInstance ?_ | apply AD | apply RB | apply gB | refine .ct ‹_› ?_ | refine .cf ‹_› ?_) | (with_reducible refine Ag.cr (λ_=>?_) (λ_=>?_)<;>try (exfalso;grind (splits:=3) [oA,PA,eA, →ZS];done)) | (with_reducible first | (apply WM;simp only[ba,bc,bs,bn]) | apply qD | apply oC | refine .bT inferInstance ‹_› ?_ | refine .bR ‹_› ?_ | refine .bI ‹_› ?_ | apply FE) | (exfalso;grind [oA,PA,eA, →ZS])))
     all_goals first | exact OZ _ rfl | (refine XZ _ _ ?_ ?_ ?_<;>first | rfl | grind [→ZS])
  ·simp only[aA,cond_true,cond_false];unfold Kw
   (try simp only[nA,HC,ZD,TD,List.nil_append,ID,FB,BA,ba])
   refine .jbl ?_;simp only[ba,bc,bs,bn,aA];refine .bd inferInstance λj _ _=> .cc (λ_=>OZ _ rfl) λhj=> .cc (λ_=>OZ _ rfl) λhid=> .bd inferInstance λp hp _=> .bd inferInstance λok _ _=> .cc (λ_=>OZ _ rfl) λ_=> .pl λ_=> .pr λ_=> .cc (λhn=>?_) λhn=>?_
   ·refine .bd inferInstance λp2 _ _=> .bd inferInstance λs IX _=> .bd inferInstance λt ht _=> .cc (λ_=>OZ _ rfl) λh0=>?_;have h0:t.2=0:=by simpa using h0
    have e1:=zs1 ht h0;rw[zs8 IX (zfH ht h0).2.2.2]at e1;have e2:=zs3 ht h0;simp only[e1]
    ((try simp only[nA,HC,ZD,TD,List.nil_append,ID,FB,BA,ba]);repeat' (first | (with_reducible first | intro _ | apply nB | apply lC | refine .bd inferInstance ?_ | apply AD | apply RB | apply gB | refine .ct ‹_› ?_ | refine .cf ‹_› ?_) | (with_reducible refine Ag.cr (λ_=>?_) (λ_=>?_)<;>try (exfalso;grind (splits:=3) [oA,PA,eA, →eT];done)) | (with_reducible first | (apply WM;simp only[ba,bc,bs,bn]) | apply qD | apply oC | refine .bT inferInstance ‹_› ?_ | refine .bR ‹_› ?_ | refine .bI ‹_› ?_ | apply FE) | (exfalso;grind [oA,PA,eA, →eT])))
    all_goals first | exact OZ _ rfl | (refine XZ _ _ ?_ ?_ ?_<;>first | rfl | grind [→eT])
   ·((try simp only[nA,HC,ZD,TD,List.nil_append,ID,FB,BA,ba]);repeat' (first | (with_reducible first | intro _ | apply nB | apply lC | refine .bd inferInstance ?_ | apply AD | apply RB | apply gB | refine .ct ‹_› ?_ | refine .cf ‹_› ?_) | (with_reducible refine Ag.cr (λ_=>?_) (λ_=>?_)<;>try (exfalso;grind (splits:=3) [oA,PA,eA, →eT];done)) | (with_reducible first | (apply WM;simp only[ba,bc,bs,bn]) | apply qD | apply oC | refine .bT inferInstance ‹_› ?_ | refine .bR ‹_› ?_ | refine .bI ‹_› ?_ | apply FE) | (exfalso;grind [oA,PA,eA, →eT])))
    all_goals first | exact OZ _ rfl | (refine XZ _ _ ?_ ?_ ?_<;>first | rfl | grind [→eT])
 ·simp only[aA,cond_true,cond_false];unfold Ku
  ((try simp only[nA,HC,ZD,TD,List.nil_append,ID,FB,BA,ba]);repeat' (first | (with_reducible first | intro _ | apply nB | apply lC | refine .bd inferInstance ?_ | apply AD | apply RB | apply gB | refine .ct ‹_› ?_ | refine .cf ‹_› ?_) | (with_reducible refine Ag.cr (λ_=>?_) (λ_=>?_)<;>try (exfalso;grind (splits:=3) [oA,PA,eA];done)) | (with_reducible first | (apply WM;simp only[ba,bc,bs,bn]) | apply qD | apply oC | refine .bT inferInstance ‹_› ?_ | refine .bR ‹_› ?_ | refine .bI ‹_› ?_ | apply FE) | (exfalso;grind [oA,PA,eA])))
  all_goals first
   | exact OZ _ rfl
   | exact XZ _ _ rfl rfl rfl
   | skip⟩
instance{a0}:MA (Fd a0) (Dx a0):=⟨by unfold Dx Fd;((try simp only);repeat' ((with_reducible first | intro _ | exact .r0 | refine .bd inferInstance ?_ | apply AD | apply RB | apply gB | apply DL | apply OC | (apply_assumption;done) | apply qD | refine .bT inferInstance ‹_› ?_ | refine .bR ‹_› ?_)))⟩
instance{a0 a1 a2}:MA (Fq a0 a1 a2) (Ey a0 a1 a2):=⟨by unfold Ey Fq;((try simp only[BA,TC,nA]);repeat' (first | (with_reducible first | intro _ | apply eF | apply iF | exact .r0 | apply nB | apply lC | refine .bd inferInstance ?_ | apply gB) | (with_reducible refine Ag.cr (λ_=>?_) (λ_=>?_)<;>try (exfalso;grind (splits:=3) [oA,PA,eA,zak];done)) | (with_reducible first | apply qD | apply oC | apply FE) | (refine .s ?_;grind [oA,PA,eA,MB,tC,List.length_eq_zero_iff,zak])))⟩
instance{a0 a1 a2}:MA (En a0 a1 a2) (Ij a0 a1 a2):=⟨by unfold Ij En Kz La;have hc:=λh=>(@zxt a0 h);((try simp only[nA,BA,ba,bc,bs,FB,GD,TC,List.nil_append]);repeat' (first | (with_reducible first | intro _ | apply eF | apply iF | exact .r0 | apply nB | apply lC | refine .bd inferInstance ?_ | apply AD | apply RB | apply gB | refine .ct ‹_› ?_ | refine .cf ‹_› ?_) | (with_reducible refine Ag.cr (λ_=>?_) (λ_=>?_)<;>try (exfalso;grind (splits:=3) [oA,PA,eA, →zfw, →zjK, →zjO];done)) | (with_reducible first | (apply WM;simp only[ba,bc,bs,bn]) | apply qD | apply oC | apply QG | refine .bT inferInstance ‹_› ?_ | apply FE) | (refine .s ?_;grind [oA,PA,eA,MB,tC,List.length_eq_zero_iff, →zfw, →zjK, →zjO])))⟩
instance{a0 a1}:MA (Gp a0 a1) (Dy a0 a1):=⟨by unfold Dy Gp;((try simp only[nA,BA,KD,List.nil_append]);repeat' (first | (with_reducible first | intro _ | apply eF | apply iF | exact .r0 | apply nB | apply lC | refine .bd inferInstance ?_ | apply RB | apply gB) | (refine .s ?_;grind [oA,PA,eA,MB,tC,List.length_eq_zero_iff, →zfw,jF,ZM])))⟩
instance{a0 a1 a2 a3}:MA (Gq a0 a1 a2 a3) (Lc a0 a1 a2 a3):=⟨by unfold Lc Gq;have h1:=λh=>@zmE a0 h;((try simp only[nA,HC]);repeat' (first | (with_reducible first | intro _ | apply eF | apply iF | exact .r0 | apply nB | apply lC | refine .bd inferInstance ?_ | apply RB | apply gB) | (with_reducible refine Ag.cr (λ_=>?_) (λ_=>?_)<;>try (exfalso;grind (splits:=3) [oA,PA,eA, →zmh, →zfm];done)) | (with_reducible first | apply qD | apply oC | apply QG | refine .bI ‹_› ?_ | apply FE) | (refine .s ?_;grind [oA,PA,eA,MB,tC,List.length_eq_zero_iff, →zmh, →zfm])))⟩
instance{a0}:MA (Hl a0) (Gh a0):=⟨by unfold Gh Hl;((try simp only[nA,ZD,TD,BA,HC,List.nil_append]);repeat' ((with_reducible first | intro _ | exact .r0 | apply nB | apply lC | apply RB | apply gB | apply OC | (apply_assumption;done))))⟩
instance{a0}:MA (Ch a0) (Ez a0):=⟨by unfold Ez Ch;((try simp only[KD,nA,BA,List.nil_append]);repeat' ((with_reducible first | intro _ | exact .r0 | apply nB | apply lC | apply RB | apply gB)))⟩
instance{a0 a1}:MA (Hn a0 a1) (Ld a0 a1):=⟨by unfold Ld Hn Co Ff;have h1:=λh=>@zmE a0 h;((try simp only[nA,HC,BA,ba,bs,List.nil_append,bc,bn]);repeat' (first | (with_reducible first | intro _ | apply eF | apply iF | exact .r0 | apply nB | apply lC | refine .bd inferInstance ?_ | apply RB | apply gB) | (with_reducible refine Ag.cr (λ_=>?_) (λ_=>?_)<;>try (exfalso;grind (splits:=3) [oA,PA,eA, →zl1];done)) | (with_reducible first | apply qD | apply oC | refine .bR ‹_› ?_ | refine .bI ‹_› ?_ | apply FE) | (refine .s ?_;grind [oA,PA,eA,MB,tC,List.length_eq_zero_iff, →zl1])))⟩
instance{a0}:MA (Ho a0) (Ik a0):=⟨by unfold Ik Ho;((try simp only[uC,BA,List.nil_append]);repeat' ((with_reducible first | intro _ | exact .r0 | apply nB | apply lC | apply AD | apply RB | apply gB | apply OC | (apply_assumption;done))))⟩
instance{a0 a1}:MA (Bw a0 a1) (Bw a0 a1):=⟨.r0⟩
instance{a0 a1}:MA (Bx a0 a1) (Dh a0 a1):=⟨by unfold Dh Bx Du;((try simp only[nA,ba,bx,DH]);repeat' ((with_reducible first | intro _ | exact .r0 | apply nB | apply lC | refine .bd inferInstance ?_ | apply AD | apply RB | apply gB | apply DL | apply OC | (apply_assumption;done) | refine .bR ‹_› ?_)))⟩
instance{a0 a1}:MA (Gs a0 a1) (Im a0 a1):=⟨by unfold Im Gs;((try simp only[nA,KD]);repeat' ((with_reducible first | intro _ | exact .r0 | apply nB | apply lC | refine .bd inferInstance ?_ | apply gB | apply OC | (apply_assumption;done))))⟩
instance{a0 a1}:MA (Gt a0 a1) (In a0 a1):=⟨by unfold In Gt;((try simp only[nA,uG]);repeat' ((with_reducible first | intro _ | exact .r0 | apply nB | apply lC | refine .bd inferInstance ?_ | apply AD | apply RB | apply gB | apply DL | apply OC | (apply_assumption;done))))⟩
instance{a0 a1}:MA (Gu a0 a1) (Io a0 a1):=⟨by unfold Io Gu Co Ff;((try simp only[nA,ID,BA,ba,bs,HC,List.nil_append,bc,bn]);repeat' ((with_reducible first | intro _ | exact .r0 | apply nB | apply lC | refine .bd inferInstance ?_ | apply AD | apply RB | apply gB | apply DL | apply OC | (apply_assumption;done) | apply qD | apply oC | refine .bR ‹_› ?_ | refine .ct ‹_› ?_ | refine .cf ‹_› ?_)))⟩
instance{a0 a1}:MA (Cu a0 a1) (Cu a0 a1):=⟨.r0⟩
instance{a0 a1}:MA (Cv a0 a1) (Dz a0 a1):=⟨by unfold Dz Cv;((try simp only);repeat' (first | (with_reducible first | intro _ | exact .r0 | refine .bd inferInstance ?_ | apply gB | apply QG | apply fG) | (refine .s ?_;grind [oA,PA,eA,MB,tC,List.length_eq_zero_iff,aE])))⟩
instance{a0 a1}:MA (Gr a0 a1) (Il a0 a1):=⟨by unfold Il Gr Lg Dr Co Dk;((try simp only[nA,BA,ba,bs,bc,GD,XI,List.nil_append]);repeat' (first | (with_reducible first | intro _ | apply eF | apply iF | exact .r0 | apply nB | apply lC | refine .bd inferInstance ?_ | apply RB | apply gB | refine .ct ‹_› ?_ | refine .cf ‹_› ?_) | (with_reducible refine Ag.cr (λ_=>?_) (λ_=>?_)<;>try (exfalso;grind (splits:=3) [oA,PA,eA,zh3, →zjp,pB];done)) | (with_reducible first | (apply WM;simp only[ba,bc,bs,bn]) | apply qD | apply oC | apply QG | refine .bT inferInstance ‹_› ?_ | apply FE) | (refine .s ?_;grind [oA,PA,eA,MB,tC,List.length_eq_zero_iff,zh3, →zjp,pB])))⟩
instance{a0 a1}:MA (Ft a0 a1) (Ip a0 a1):=⟨by unfold Ip Ft;((try simp only[BA,dK]);repeat' ((with_reducible first | intro _ | exact .r0 | apply nB | apply lC)))⟩
end Go.D
namespace Go.D
def Ag.li{α σ:Type}(I:σ→Prop){f f':σ→(σ→Option α)→Option α}{x0:σ}(h0:I x0)(e:∀x k k',I x→(∀y,I y→Ag (k y) (k' y))→Ag (f x k) (f' x k')):∀n,Ag (sA n f x0) (sA n f' x0):=by
 intro n;induction n generalizing x0 with
 | zero=>exact nl
 | succ n ih=>exact e _ _ _ h0 λ_ h=>ih h
def zwl{k:Int}:Ag (Kt k) (Di k):=by
 by_cases h:0≤k∧k≤10
 ·have:k=0∨k=1∨k=2∨k=3∨k=4∨k=5∨k=6∨k=7∨k=8∨k=9∨k=10:=by omega
  rcases this with rfl | rfl | rfl | rfl | rfl | rfl | rfl | rfl | rfl | rfl | rfl<;>exact Ag.r0
 ·unfold Di;refine .cr (λhc=>absurd ?_ h) λ_=> .nr;simp only[B,List.length_cons,List.length_nil]at hc;omega
instance{k:Int}:MA (Di k) (Kt k):=⟨zwl⟩
end Go.D
namespace Go.D
set_option maxHeartbeats 2000000
def zgs{α:Type}{l:List α}{m:Nat}{j:Int}(h:m+j.toNat<l.length)(hj:0≤j):kA (List.take ((l.length:Int) - (m:Int)).toNat (List.drop m l)) j=l[m+j.toNat]?:=by
 unfold kA;rw[if_pos hj,List.getElem?_take,if_pos (by omega),List.getElem?_drop]
def Ag.lb{α β σ:Type}{K:α→Option β}{f:σ→(σ→Option α)→Option α}{f':σ→(σ→Option β)→Option β}{x0:σ}(e:∀x k k',(∀y,Ag (Option.bind (k y) K) (k' y))→Ag (Option.bind (f x k) K) (f' x k')):∀n,Ag (Option.bind (sA n f x0) K) (sA n f' x0):=by
 intro n;induction n generalizing x0 with
 | zero=>exact nl
 | succ n ih=>exact e _ _ _ λ_=>ih
def zvX{a0 a1 a2}:Ag (Hx a0 a1 a2) (Fr a0 a1 a2):=by
 unfold Hx Fr
 (try simp only[BA,List.nil_append,GJ,ME])
 refine .cc (λ_=> .r0) λ_=> .jj (λy=>?_) λk k' hk=>Ag.li (λx=>x.1.length≤8) (by decide) (λx k4 k4' hx UV=>?_) _
 ·(repeat' ((with_reducible first | intro _ | exact .r0 | apply nB | refine .bd inferInstance ?_ | apply AD | apply RB | apply gB)))
 ·have hi:=λr:Int=>@IA (x.1.length:Int) r;refine .cc (λ_=> .bd inferInstance λe _ _=> .bl λr6 h6=> .jBl (.jBr (.bd inferInstance λso hso _=> .cc (λ_=> .r0) λhs=> .bT inferInstance h6 λ_=> .ce ?_ (λ_=> .r0) λhl=>?_))) λ_=>hk _
  ·obtain⟨q,hq,hb⟩:=zeN (a0:=e.Kind);cases hq.symm.trans h6;rw[hi r6 (by omega) (by omega)];exact decide_eq_decide.2 (by omega)
  ·obtain⟨q,hq,hb⟩:=ziX (a0:=e);cases hq.symm.trans hso;obtain⟨q,hq,hc⟩:=zeN (a0:=e.Kind);cases hq.symm.trans h6;have hb:=hb (by simpa using hs);have OV:r6≤(x.1.length:Int):=by simp only[B]at hl;rw[hi r6 (by omega) (by omega)]at hl;omega
   have hi:=hi r6 (by omega) (by omega);obtain⟨m,hm⟩:∃m:Nat,(x.1.length:Int) - r6=m:=⟨_,(Int.toNat_of_nonneg (by omega)).symm⟩;rw[hm]at hi;refine .gl λ_=> .bT inferInstance h6 λ_=>?_;have nY:1≤r6→_:=λh=>zgs (l:=x.1) (m:=m) (j:=0) (by omega) (by omega);have Y1:2≤r6→_:=λh=>zgs (l:=x.1) (m:=m) (j:=1) (by omega) (by omega);have nZ:3≤r6→_:=λh=>zgs (l:=x.1) (m:=m) (j:=2) (by omega) (by omega);have e1:iA .i64 (m:Int) 1=((m+1:Nat):Int):=AA (by omega) (by omega);have e2:iA .i64 (m:Int) 2=((m+2:Nat):Int):=AA (by omega) (by omega)
   have h8:decide (((m+1:Nat):Int)>8)=((m:Int)==8):=by
    rw[Bool.eq_iff_iff,decide_eq_true_iff,beq_iff_eq];omega
   have iW:∀(b:List UInt8) (i:Int),((m:Int)==8)=false→Ag (k4 (List.take m x.1++[b],i)) (k4' (List.take m x.1++[b],i)):=λb i h=>UV _ (by have h:=beq_eq_false_iff_ne.1 h;simp only[List.length_append,List.length_take,List.length_cons,List.length_nil];omega);have:e.Kind=1∨e.Kind=2∨e.Kind=3∨e.Kind=4∨e.Kind=5∨e.Kind=6∨e.Kind=7∨e.Kind=8∨e.Kind=9∨e.Kind=10:=by omega
   unfold Jy
   rcases this with h | h | h | h | h | h | h | h | h | h
   all_goals (try have nY:=nY (by omega))
   all_goals (try have Y1:=Y1 (by omega))
   all_goals (try have nZ:=nZ (by omega))
   all_goals (simp only[h,hi,nY,Y1,nZ,aA,beq_self_eq_true,cond_true,cond_false,Int.reduceBEq,ba,bc,bs,bn,h8,e1,e2,List.drop_zero,Int.sub_zero,Int.toNat_natCast,Int.reduceToNat,Nat.add_zero,GJ,zgI,ME,List.nil_append,Bool.not_true,Bool.not_false])
   rotate_left 5
   ·refine .gr λ_=> .bd inferInstance λu hu _=> .gr λ_=> .bd inferInstance λv hv _=> .cl (λh1=> .cf (by simp only[bne,h1];rfl) ?_) λh1=> .ct (by simp only[bne,h1];rfl) .r0;simp only[hu,hv,bs,Jx,aA];refine .lb (λx k k' JW=>?_) _;simp only[ba,bc,bs,bn]
    repeat' (first | exact iW _ _ ‹_› | exact JW _ | (with_reducible first | intro _ | exact .r0 | refine .bd inferInstance ?_ | apply AD | apply RB | apply gB) | fail | (fail) | dsimp only[cond_true,cond_false])
   all_goals (repeat' (first | exact iW _ _ ‹_› | (with_reducible first | intro _ | exact .r0 | apply nB | apply lC | refine .bd inferInstance ?_ | apply AD | apply RB | apply gB) | (with_reducible first | intro _ | apply qD | apply oC | refine .bR ‹_› ?_ | refine .ct ‹_› ?_ | refine .cf ‹_› ?_ | apply FE | apply fG) | ((exfalso;grind [oA,PA,eA])) | dsimp only[cond_true,cond_false]))
instance{a0:List Bc}{a1:List Am}{a2:List (List UInt8)}:MA (Fr a0 a1 a2) (Hx a0 a1 a2):=⟨zvX⟩
end Go.D
namespace Go.D
open Option renaming bind→ob
set_option maxHeartbeats 1000000
def Ag.bM{α β γ:Type}{x:Option α}{y:Option β}(g:α→β)(h:Ag (ob x λv=>some (g v)) y){f:α→Option γ}{f':β→Option γ}(k:∀v,x=some v→Ag (f v) (f' (g v))):Ag (ob x f) (ob y f'):=by
 cases hx:x with
 | none=>exact nl
 | some v=>
  cases hy:y with
  | none=>exact nr
  | some w=>
   subst hx hy;have:=h _ _ rfl rfl;subst this;exact k v rfl
def Ag.lr{α σ τ:Type}(R:σ→τ→Prop){f:σ→(σ→Option α)→Option α}{f':τ→(τ→Option α)→Option α}{x0:σ}{y0:τ}(h0:R x0 y0)(e:∀x y k k',R x y→(∀x y,R x y→Ag (k x) (k' y))→Ag (f x k) (f' y k')):∀n,Ag (sA n f x0) (sA n f' y0):=by
 intro n;induction n generalizing x0 y0 with
 | zero=>exact nl
 | succ n ih=>exact e _ _ _ _ h0 λ_ _ h=>ih h
def zwv{a0 a1 a2 a3}(ha:iB a0=true)(ht:eA a1 0 2=true)(hf:GA a2=true):Ag (ob (Bn a0 a1 a2 a3) λr=>some (r.2,r.1)) (Hk a0 a1 a2 a3):=by
 unfold Bn Hk
 (try simp only[nA,AE,ba,bc,bs,bn])
 simp only[aA,ha,ht,hf,Bool.not_true,cond_false,cond_true]
 ((try simp only[nA,AE,ba,bc,bs,bn]);repeat' (first | (with_reducible first | intro _ | exact .r0 | apply nB | refine .bd inferInstance ?_ | apply AD | apply RB | apply gB | apply oC | refine .bR ‹_› ?_ | apply FE | apply fG) | (refine .s ?_;grind [oA,PA,eA,MB,tC,List.length_eq_zero_iff])))
def zwp{a0}(ha:iB a0=true)(ht:(a0.Now==1000000)=false):Ag (ob (Cc a0) λr=>some (r.2,r.1)) (Gv a0):=by
 unfold Cc Gv
 (try simp only[nA,AE,ba,bc,bn,bs])
 refine .pl λ_=>?_;simp only[aA,ha,ht,ba];refine .pl λ_=>?_;have hc:(a0.Clients.length:Int)=2:=by rw[(qC.1 ha).cl];rfl
 simp only[Bool.not_true,cond_false,hc];refine .lb (λx k k' hk=>?_) _
 (try simp only[nA,AE,ba,bc,bn,bs])
 (repeat' ((with_reducible first | intro _ | exact .r0 | refine .bd inferInstance ?_ | apply AD | apply RB | apply gB | (apply_assumption;done))))
def zxi{l:List Am}{x:Am}:Pc (Lh l x) λr=>r=cond (PD (l++[x])) (l++[x]) l:=by
 unfold Lh
 (try simp only[List.nil_append,nA])
 refine .g λ_=> .g λ_=> .p λ_=> .c (λh=> .p λ_=> .s ?_) λh=> .s ?_
 ·rw[show PD (l++[x])=false by simpa using h];rfl
 ·rw[show PD (l++[x])=true by simpa using h];rfl
def zkg{l:List Am}{x:Am}(hl:PD l=true)(hx:CE x=true):PD (l++[x])=decide ((l.length:Int)<90):=by
 simp only[PD,Bool.and_eq_true,Bool.not_eq_true',decide_eq_true_eq,List.any_append,List.any_cons,List.any_nil,hx]at hl⊢;rw[List.length_append,List.length_singleton];rw[hl.1];simp only[Bool.not_true,Bool.or_false,Bool.not_false,Bool.true_and];exact decide_eq_decide.2 (by omega)
def iK{α:Type}{l:List α}{i:Int}{e:α}(h:kA l i=some e):e∈l:=by
 unfold kA at h;split at h
 ·exact List.mem_of_getElem? h
 ·cases h
def gT{w:Aa}{l:List Am}{ns:List Ae}(hs:PD w.Seen=true)(hl:∀x∈l,CE x=true):Ag (Bo ⟨w.Now,w.Clients,w.S,w.D,w.Seen,w.Known,w.Notes++ns⟩ l) (Cf w l ns):=by
 unfold Bo Cf
 (try simp only[nA])
 simp only[aA];refine .pl λ_=>Ag.lr (λx y=>x.1=y.1∧PD y.2.Seen=true∧x.2=⟨y.2.Now,y.2.Clients,y.2.S,y.2.D,y.2.Seen,y.2.Known,w.Notes++ns⟩∧y.2.Notes=w.Notes) ⟨rfl,hs,rfl,rfl⟩ (λx y k k' ⟨h1,h2,h3,h4⟩ hk=>?_) _;rw[h1];refine .cc (λ_=> .bl λe he=> .bl λr hr=>?_) λ_=> .gr λ_=> .s (by rw[h3,h4]);have hr:=zxi r hr;have hm:=iK he;have h5:x.2.Seen=y.2.Seen:=by rw[h3]
 rw[h5,zkg h2 (hl _ hm)]at hr;refine .cr (λh=>?_) λh=>hk _ _ ⟨rfl,h2,?_,h4⟩
 ·rw[h,cond_true]at hr;refine .bR he (.gr λ_=>hk _ _ ⟨rfl,?_,?_,h4⟩)
  ·show PD (y.2.Seen++[e])=true
   rw[zkg h2 (hl _ hm)];exact h
  ·rw[hr,h3]
 ·rw[h,cond_false]at hr;rw[hr,h3]
def zd3{w:Aa}{i:Int}{c:Ad}{fs:List Ab}{ns:List Ae}(hs:PD w.Seen=true)(hc:pB c=true)(hf:wt fs≤400):
  Ag (cond (decide (0≤i)&&decide (i<(w.Clients.length:Int))) (ob (w.Clients[i.toNat]?) λ_=>cond (decide (w.Notes.length+ns.length≤bA)) (ob (Cp c fs) λr24=>ob (Bo ⟨w.Now,List.set w.Clients i.toNat c,w.S,w.D,w.Seen,w.Known,w.Notes++ns⟩ r24) λr53=>some (r53,true)) none) none)
  (ob (Dj w i c fs ns) λr=>some (r,true)):=by
 unfold Dj
 (try simp only[bc,ba,bs,bn])
 refine .gl λ_=> .cr (λ_=> .bd inferInstance λ_ _ _=> .gl λ_=> .bd inferInstance λr hr _=> .b (gT (w:=⟨w.Now,List.set w.Clients i.toNat c,w.S,w.D,w.Seen,w.Known,w.Notes⟩) hs ?_) λ_ _ _=> .r0) λ_=> .nr;obtain⟨q,hq,_,h⟩:=@zaK c fs (by have:=(VD hc).1;omega) (by omega);cases hq.symm.trans hr;exact λx hx=>((h (zd9 hc)).1 x hx).1
def zwr{n:Int}(h:0≤n∧n≤255):GA (vB n)=true:=by
 unfold vB;rw[if_pos h];simp only[GA,Bool.and_eq_true,Bool.or_eq_true,OB,beq_iff_eq];omega
def zdN{w:Aa}{b:Bool}:Ag (ob (Bo w []) λr=>some (r,b)) (some (w,b)):=by
 have h:Pc (Bo w []) λr=>r=w:=by
  unfold Bo
  (try simp only[nA])
  refine .p λ_=> .j (.l (λx=>x=(0,w)) rfl (λx k hx hk=>?_) _);subst hx;exact .s rfl
 exact .bl λr hr=> .s (by rw[h r hr])
def zuN{c:Ad}:Pc (Cp c []) λr=>r=[]:=by
 unfold Cp
 (try simp only)
 refine .j (.l (λx=>x=([],0)) rfl (λx k hx hk=>?_) _);subst hx;exact .s rfl
def zmv:Pc (Dx []) λr=>r=[]:=by
 unfold Dx
 (try simp only)
 refine .j (.l (λx=>x=([],0)) rfl (λx k hx hk=>?_) _);subst hx;exact .s rfl
def zvZ{s:Ac}(hs:LB s=true):Pc (Gh s) λr=>((r.2.length:Int)==0)= !decide (s.D.N<10000):=by
 unfold Gh
 (try simp only[nA,ZD,TD,BA,HC])
 have hd:=(YE.1 hs).dice;simp only[ZB,Bool.and_eq_true,OB]at hd;refine .p λ_=> .j (.p λ_=> .c (λh=>by rw[hs]at h;cases h) λ_=>?_);cases h:s.D.N==10000
 ·refine .p λ_=> .p λ_=> .p λ_=> .s ?_;rw[decide_eq_true (by have:=beq_eq_false_iff_ne.1 h;omega)];rfl
 ·refine .s ?_;rw[decide_eq_false (by have:=beq_iff_eq.1 h;omega)];rfl
def zau{a0:Aa}{a1:Int}{a2:Ah}{a3:List UInt8}(ha:iB a0=true)(hn:wt a0≤400000000)(h:0≤a1∧a1≤2)(hf:GA a2=true)(hb:wt a3≤900000000):
  Ag (ob (Bn a0 a1 a2 a3) λv=>ob (Bo v.1 v.2) λr=>some (r,true)) (ob (Da a0 a1 a2 a3) λr=>some (r,true)):=by
 unfold Da
 (try simp only[ba,bs])
 refine .bM (λr=>(r.2,r.1)) (zwv ha (OB.2 h) hf) λv hv=>?_;obtain⟨q,hq,E⟩:=@zgD a0 a1 a2 a3 ha hn h.1 h.2 hb;cases hq.symm.trans hv;have:=gT (w:=v.1) (ns:=[]) (qC.1 E.ok).seen E.wires;rw[List.append_nil]at this;exact .b this λ_ _ _=> .r0
def zlT{w:Aa}{c:Ak}:Ag (ob (Ik c) λv=>cond (decide (w.Known.length+v.length≤bA)) (ob (pt (wt c.Sn≤bA) c.Sn) λs=>cond (decide (w.Notes.length+[(⟨13,0,0,[],s,0,0,[],[],(⟨0,0⟩:Ah),0⟩:Ae)].length≤bA)) (cond (!decide (((w.Known++v).length:Int)≤12)) (some (w,false)) (ob (Bo ⟨w.Now,w.Clients,w.S,w.D,w.Seen,w.Known++v,w.Notes++[(⟨13,0,0,[],s,0,0,[],[],(⟨0,0⟩:Ah),0⟩:Ae)]⟩ []) λr=>some (r,true))) none) none)
  (ob (Fs w c) λr=>some (cond r.1 r.2 w,r.1)):=by
 unfold Fs
 (try simp only[List.nil_append,ba,bc,bs,bn])
 refine .bd inferInstance λv hv _=> .gl λh1=> .pl λ_=> .gl λ_=> .ce ?_ (λ_=> .r0) λ_=> .gr λ_=> .gr λ_=> .gr λ_=>zdN;have h1:=of_decide_eq_true h1;have:=CB;rw[AA (by omega) (by omega),List.length_append, ←decide_not];exact decide_eq_decide.2 (by omega)
def zxx{a0 a1}(ha:iB a0=true)(hn:wt a0≤400000000)(hw:wt a1≤300000)(he:sG a1=true)(hl:decide ((a0.Notes.length:Int)>500)=false):Ag (Iq a0 a1) (ob (Hp a0 a1) λr=>some (cond r.1 r.2 a0,r.1)):=by
 have hp:∀{α:Type} (v:α),pt (wt a0≤bA) v=some v:=λ_=>pA (by have:=CB;omega);have W:=qC.1 ha;have hs:=W.seen;have hf:=zM he;have F:=BM ha
 have hP:∀a,nK a0 a≤2:=λa=>by
  obtain⟨q,hq,_,h⟩:=@zcm a0 a (by have:=CB;omega) F.2.2.2.2.2.1;cases(hp _).symm.trans hq;exact h
 simp only[ZO]at F;have hj:0≤zA .i64 a1.J 3∧zA .i64 a1.J 3<3:=MH (by omega) (by omega);have mX:0≤zA .i64 a1.N 256∧zA .i64 a1.N 256<256:=MH (by omega) (by omega);have T8:=zwr (n:=zA .i64 a1.N 256) ⟨mX.1,by omega⟩
 have hX:∀x∈a0.Seen,GA x.From=true∧wt x.B≤900000000:=λx hx=>by
  have h1:=hs;simp only[PD,Bool.and_eq_true,Bool.not_eq_true',List.any_eq_false]at h1;have:=h1.1 x hx;simp only[CE,Bool.and_eq_true,decide_eq_true_eq]at this;exact⟨by grind,by simp only[N];grind⟩
 have hk:a1.Kind=1∨a1.Kind=2∨a1.Kind=3∨a1.Kind=4∨a1.Kind=5∨a1.Kind=6∨a1.Kind=7∨a1.Kind=8∨a1.Kind=9∨a1.Kind=10∨a1.Kind=11∨a1.Kind=12∨a1.Kind=13∨a1.Kind=14∨a1.Kind=15∨a1.Kind=16∨a1.Kind=17:=by omega
 unfold Iq Hp Ks Le Lf Lb
 (try simp only[nA,ZD,TD,bc,ba,bn,KH,BA,bs,AE,List.nil_append])
 rcases hk with h | h | h | h | h | h | h | h | h | h | h | h | h | h | h | h | h
 all_goals simp(config:={decide:=false}) only[h,hp,ha,he,hl,aA,Bool.not_true,Bool.not_false,cond_true,cond_false,Int.reduceBEq,ge_iff_le,Int.reduceLE,decide_true,decide_false,beq_self_eq_true,ba,bs,bc,bn,bne]
 ·refine .cl (λhc1=> .bl λc hc=> .pl λo6=> .pl λW9=> .gl λhp3=>?_) λ_=> .nl;refine .pr λ_=> .ct hc1 (.bR hc (.bd inferInstance λv hv _=> .cr (λh1=>?_) λh1=> .pr λ_=> .gr λ_=>?_))
  ·simp only[h1,cond_true];exact .gl λ_=> .bl λ_ _=> .gl λ_=> .bl λ_ _=> .r0
  ·simp only[h1,cond_false];obtain⟨q,hq,p1,p2,p3,p4,p5⟩:=@zfs c a0.Now (MC a0.D).2 (sI ha (List.mem_of_getElem? hc)) (by have:=(mJ a0.D).2.1;omega);cases hq.symm.trans hv;exact zd3 (w:=⟨a0.Now,a0.Clients,a0.S,(MC a0.D).1,a0.Seen,a0.Known,a0.Notes++[KE (MC a0.D).2]⟩) hs p1 p5.2
 ·refine .cc (λ_=> .bd inferInstance λc hc _=> .bd inferInstance λv hv _=> .cr (λh1=>?_) λh1=>?_) λ_=> .nr
  ·simp only[h1,cond_true];exact .gl λ_=> .bl λ_ _=> .gl λ_=> .bl λ_ _=> .r0
  ·simp only[h1,cond_false];obtain⟨q,hq,p1,p2,p3,p4,p5⟩:=@zeG c a0.Now a1.B (sI ha (List.mem_of_getElem? hc)) (by omega);cases hq.symm.trans hv;exact zd3 hs p1 p5.2
 ·refine .bd inferInstance λv hv _=> .gl λ_=> .cr (λh1=>?_) λh1=> .bd inferInstance λl hl _=>?_
  ·simp only[h1,cond_true];exact .bl λ_ _=> .r0
  ·simp only[h1,cond_false];obtain⟨q,hq,p1,p2,p3,p4,p5⟩:=@zh8 a0.S a0.Now a1.I a1.B W.srv (by simp only[N];omega);cases hq.symm.trans hv;obtain⟨q,hq,_,p6⟩:=@zeX v.2.1 (by omega) p3;cases hq.symm.trans hl;exact .b (gT (w:=⟨a0.Now,a0.Clients,v.1,a0.D,a0.Seen,a0.Known,a0.Notes⟩) hs λx hx=>(p6 x hx).1) λ_ _ _=> .r0
 ·have hN:=OB.1 W.now;refine .cr (λh1=> .bl λ_ _=>?_) λh1=> .bM (λr=>(r.2,r.1)) (zwp ha h1) λv hv=>?_
  ·rw[decide_eq_false (by have:=beq_iff_eq.1 h1;omega)];exact .r0
  ·rw[decide_eq_true (by have:=beq_eq_false_iff_ne.1 h1;omega)];obtain⟨q,hq,E⟩:=@zlG a0 ha hn;cases hq.symm.trans hv;have:=gT (w:=v.1) (ns:=[]) (qC.1 E.ok).seen E.wires;rw[List.append_nil]at this;exact .b this λ_ _ _=> .r0
 ·refine .cc (λ_=> .bd inferInstance λc hc _=> .bd inferInstance λv hv _=> .cc (λ_=> .bd inferInstance λ_ _ _=> .gl λ_=> .bl λl hl=>?_) λ_=> .nr) λ_=> .nr;rw[zuN l hl,List.append_nil];exact zdN
 ·refine .cc (λ_=> .bd inferInstance λc hc _=> .bd inferInstance λv hv _=> .cr (λh1=>?_) λh1=>?_) λ_=> .nr
  ·simp only[h1,cond_true];exact .gl λ_=> .bl λ_ _=> .gl λ_=> .bl λ_ _=> .r0
  ·simp only[h1,cond_false];obtain⟨q,hq,p1,p2,p3,p4,p5⟩:=@zeE c a0.Now (sI ha (List.mem_of_getElem? hc));cases hq.symm.trans hv;exact zd3 hs p1 p5.2
 ·refine .cc (λ_=> .r0) λ_=> .cc (λ_=> .r0) λ_=> .bl λx hx=> .pl λo6=> .gr λ_=> .bI hx (.cc (λ_=> .r0) λh1=>?_);obtain⟨f1,f2⟩:=hX x (iK hx);exact zau ha hn ⟨by have:=of_decide_eq_false h1;omega,hP x.To⟩ f1 f2
 ·refine .cc (λ_=> .r0) λ_=> .cc (λ_=> .r0) λ_=> .bl λx hx=> .pl λo6=> .gr λ_=> .bI hx ?_;exact zau ha hn ⟨by omega,by omega⟩ T8 (hX x (iK hx)).2
 ·refine .cc (λ_=> .r0) λ_=> .cc (λ_=> .r0) λ_=> .bl λx hx=> .pl λo6=> .gr λ_=> .bI hx ?_;obtain⟨f1,f2⟩:=hX x (iK hx);rw[decide_eq_false (by omega)];exact zau ha hn ⟨hj.1,by omega⟩ f1 f2
 ·refine .cc (λ_=> .r0) λ_=> .cc (λ_=> .r0) λ_=> .bl λx hx=> .pl λo6=> .gr λ_=> .bI hx ?_;obtain⟨f1,f2⟩:=hX x (iK hx);refine .cr (λh1=>?_) λh1=>?_
  ·simp only[h1,cond_true];exact .cl (λ_=> .r0) λ_=> .cl (λ_=> .nl) λ_=> .gl λ_=> .bl λ_ _=> .gl λ_=> .bl λ_ _=> .r0
  ·simp only[h1,cond_false];exact .cc (λ_=> .r0) λ_=> .gr λ_=> .cc (λ_=> .r0) λ_=> .cc (λ_=> .bd inferInstance λv _ _=> .cc (λ_=> .bd inferInstance λ_ _ _=>zau ha hn ⟨by have:=of_decide_eq_false h1;omega,hP x.To⟩ f1 (by simp only[N,List.length_set]at f2⊢;exact f2)) λ_=> .r0) λ_=> .r0
 ·refine .bd inferInstance λv hv _=> .cr (λh1=>?_) λh1=>?_
  ·simp only[h1,cond_true];exact .bl λ_ _=> .r0
  ·simp only[h1,cond_false];obtain⟨q,hq,p⟩:=@zfk a1.Ops a0.Seen a0.Known (by simp only[N]at hw⊢;omega) (by omega) (by omega);cases hq.symm.trans hv;exact zau ha hn ⟨hj.1,by omega⟩ T8 (by simp only[N];omega)
 ·refine .bd inferInstance λv hv _=> .gl λ_=> .bl λl hl=>?_;rw[zmv l hl, ←zvZ W.srv v hv];exact .cc (λ_=> .r0) λ_=> .b (gT (w:=⟨a0.Now,a0.Clients,v.1,a0.D,a0.Seen,a0.Known,a0.Notes⟩) hs nofun) λ_ _ _=> .r0
 ·refine .cc (λh0=> .bl λc hc=> .bR hc (.cl (λh1=> .ct h1 ?_) λh1=> .cf h1 (.ct h0 (.bR hc (.bd inferInstance λv hv _=>?_))))) λ_=> .nr
  ·exact .bl λ_ _=> .gl λ_=> .bl λ_ _=> .gl λ_=> .bl λ_ _=> .r0
  ·obtain⟨q,hq,p1,_⟩:=@zfo c (sI ha (List.mem_of_getElem? hc));cases hq.symm.trans hv;exact zd3 hs p1 (Nat.zero_le _)
 ·refine .bd inferInstance λv hv _=> .gl λ_=> .bl λl hl=>?_;rw[zmv l hl];exact .cc (λ_=> .r0) λ_=> .b (gT (w:=⟨a0.Now,a0.Clients,v.1,a0.D,a0.Seen,a0.Known,a0.Notes⟩) hs nofun) λ_ _ _=> .r0
 ·refine .cc (λh0=> .bl λc hc=> .bR hc ?_) λ_=> .nr;cases c.St==3
  ·exact .r0
  ·exact .ct rfl (.ct h0 (.bR hc zlT))
 ·refine .cl (λh0=> .cf (decide_eq_false (by have:=of_decide_eq_true h0;omega)) .r0) λh0=> .ct (decide_eq_true (by have:=of_decide_eq_false h0;omega)) (.gl λ_=> .bl λe hx=> .bJ hx ?_);cases e.Dead
  ·exact .gl λ_=> .bl λe hx=> .bJ hx zlT
  ·exact .r0
 ·exact .cc (λ_=> .bd inferInstance λv _ _=>zdN) λ_=> .bd inferInstance λv _ _=>zdN
end Go.D

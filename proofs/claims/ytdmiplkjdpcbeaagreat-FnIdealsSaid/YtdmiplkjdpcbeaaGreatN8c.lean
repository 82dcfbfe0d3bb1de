/-
 The reference's machine comes to an end, and what it gives is small.
-/
import Derived.Test.YtdmiplkjdpcbeaaGreatN8
namespace Go.D
theorem iT {a0:Int} {a1:List UInt8} {a2:Int} {a3:Int} (ha:wt a1≤1000000000):Ok (JJ.raw a0 a1 a2 a3) fun r=>r.length≤40∧(0<r.length→a1.length=12):=by
 (try simp only [N] at ha);have hL:=qA
 unfold JJ.raw
 refine Ok.joinR (fun y1:Bool=>y1=false→a1.length=12) (fun k2 NV=>?_) (fun y1 UV=>?_)
 ·refine Ok.cond' (fun h1=>?_) (fun h1=>?_)
  ·exact NV _ fun h=>nomatch h
  (try simp only [B] at h1);refine Ok.cond' (fun h2=>?_) (fun h2=>?_)
  ·exact NV _ fun h=>nomatch h
  (try simp only [B] at h2);refine Ok.cond' (fun h3=>?_) (fun h3=>?_)
  ·exact NV _ fun h=>nomatch h
  (try simp only [B] at h3);refine NV _ fun q4=>?_;(try simp only [B] at q4);(try simp only [N]);omega
 refine Ok.cond' (fun h5=>?_) (fun h5=>?_)
 ·refine Ok.some' ?_;(try simp only [N]);omega
 replace UV:=UV h5;(try simp only [N] at UV);refine Ok.guard ?_ ?_
 ·(try simp only [N]);omega
 refine Ok.bind (ZE ?_) (fun r3 YV=>?_)
 ·(try simp only [N]);omega
 (try simp only [N] at YV);refine Ok.bind (ZE ?_) (fun r4 SV=>?_)
 ·(try simp only [N]);omega
 (try simp only [N] at SV);refine Ok.some' ?_;(try simp only [N]);omega
theorem zsY {a0:List UInt8} {a1:List UInt8} {a2:Int} (ha:wt a1≤1000000000):Ok (NS.raw a0 a1 a2) fun r=>r.length≤32∧(0≤a2∧a2≤6∧a1.length≤100∧a0.length≤1048576→r.length=32):=by
 try simp only [N] at ha
 have hL:=qA
 unfold NS.raw
 refine Ok.join (fun y1:Bool=>(y1=true∧¬ (0≤a2∧a2≤6∧a1.length≤100))∨(y1=false∧a1.length≤100)) (fun y1 UV=>?_) (fun k2 NV=>?_)
 ·rcases UV with ⟨rfl,h⟩ | ⟨rfl,h⟩
  ·exact Ok.some' ⟨Nat.zero_le _,fun k=>absurd ⟨k.1,k.2.1,k.2.2.1⟩ h⟩
  ·refine Ok.guard ?_ ?_
   ·simp only [N];omega
   refine Ok.bind (ZE ?_) (fun r3 YV=>?_)
   ·simp only [N];omega
   simp only [N] at YV
   exact Ok.some' ⟨rR _ _,fun k=>EK k.2.2.2 (by omega)⟩
 refine Ok.cond' (fun h2=>?_) (fun h2=>?_)
 ·simp only [B] at h2
  exact NV _ (.inl ⟨rfl,fun k=>h2 ⟨k.1,k.2.1⟩⟩)
 ·simp only [B] at h2
  refine NV _ ?_
  by_cases h:(a1.length:Int)>100
  ·exact .inl ⟨decide_eq_true h,fun k=>by omega⟩
  ·exact .inr ⟨decide_eq_false h,by omega⟩
theorem ztL {a0:List UInt8} {a1:List UInt8} {a2:Int} (ha:wt a1≤1000000000):Ok (MT.raw a0 a1 a2) fun r=>r.length≤200∧(0≤a2∧a2≤200∧a1.length≤100∧a0.length≤1048576→(r.length:Int)=a2):=by
 have hL:=qA
 unfold MT.raw
 refine Ok.join (fun y1:Bool=>(y1=true∧¬ (0≤a2∧a2≤200∧a1.length≤100∧a0.length≤1048576))∨(y1=false∧(0≤a2∧a2≤200∧a1.length≤100∧a0.length≤1048576))) (fun y1 UV=>?_) (fun k2 NV=>?_)
 ·rcases UV with ⟨rfl,h⟩ | ⟨rfl,h⟩
  ·exact Ok.some' ⟨Nat.zero_le _,fun k=>absurd k h⟩
  ·rw [cond_false]
   refine Ok.join (fun y3:List UInt8=>a2≤(y3.length:Int)∧y3.length≤1000) (fun y3 cX=>?_) (fun k4 bW=>?_)
   ·refine Ok.chk ?_ ?_
    ·simp only [B];omega
    refine Ok.guard ?_ ?_
    ·simp only [N];omega
    refine Ok.some' ?_
    simp only [N];omega
   refine Ok.loop (fun x5:(List UInt8) × Int=>0≤x5.2∧x5.2≤7∧(x5.1.length:Int)=32 *x5.2) (fun x5=>(7 - x5.2).toNat) (fun x5 hx5 k6 kX=>?_) ?_ ?_
   ·refine Ok.cond' (fun h1=>?_) (fun h1=>?_)
    ·simp only [B] at h1
     refine Ok.bind (zsY ha) (fun r7 KW=>?_)
     have h7:r7.length=32:=KW.2 (by omega)
     refine Ok.guard ?_ ?_
     ·simp only [N];omega
     have:=zA (a:=x5.2) (b:=1) (by omega) (by omega)
     refine kX _ ?_ ?_
     ·simp only [N];omega
     ·simp only;omega
    ·simp only [B] at h1
     refine bW _ ?_
     omega
   ·simp only [N];omega
   ·simp only;omega
 refine Ok.cond' (fun h2=>?_) (fun h2=>?_)
 ·simp only [B] at h2
  exact NV _ (.inl ⟨rfl,fun k=>h2 ⟨k.1,k.2.1⟩⟩)
 ·simp only [B] at h2
  refine Ok.cond' (fun h3=>?_) (fun h3=>?_)
  ·simp only [B] at h3
   exact NV _ (.inl ⟨rfl,fun k=>by omega⟩)
  ·simp only [B] at h3
   refine NV _ ?_
   by_cases h:(a0.length:Int)>1048576
   ·exact .inl ⟨decide_eq_true h,fun k=>by omega⟩
   ·exact .inr ⟨decide_eq_false h,by omega⟩
theorem zbV {a0:List UInt8} {a1:List UInt8} {a2:List UInt8} (ha:wt a1≤1000000000) (hb:wt a2≤1000000000):Ok (LL.raw a0 a1 a2) fun r=>r.length≤200:=by
 (try simp only [N] at ha);(try simp only [N] at hb);have hL:=qA
 unfold LL.raw
 refine Ok.joinR (fun y1:Bool=>y1=false→a2.length≤200∧a1.length≤100∧a0.length≤1048576) (fun k2 NV=>?_) (fun y1 UV=>?_)
 ·refine Ok.cond' (fun h1=>?_) (fun h1=>?_)
  ·exact NV _ fun h=>nomatch h
  (try simp only [B] at h1);refine Ok.cond' (fun h2=>?_) (fun h2=>?_)
  ·exact NV _ fun h=>nomatch h
  (try simp only [B] at h2);refine NV _ fun q3=>?_;(try simp only [B] at q3);(try simp only [N]);omega
 refine Ok.cond' (fun h4=>?_) (fun h4=>?_)
 ·refine Ok.some' ?_;(try simp only [N]);omega
 replace UV:=UV h4;(try simp only [N] at UV);refine Ok.bind (ztL ?_) (fun r3 YV=>?_)
 ·(try simp only [N]);omega
 (try simp only [N] at YV);refine Ok.join (fun y4:(List UInt8)=>y4.length≤200) (fun y4 aY=>?_) (fun k5 EW=>?_)
 ·(try simp only [N] at aY);refine Ok.some' ?_;(try simp only [N]);omega
 refine Ok.loopR (fun x6:(List UInt8) × Int=>0≤x6.2∧x6.2≤(a2.length:Int)∧(x6.1.length:Int)=x6.2) (fun x6=>((a2.length:Int) - x6.2).toNat) ?_ ?_ (fun x6 S4 k7 fW=>?_)
 iterate 2 (·(try simp only [N]);omega)
 (try simp only [N] at S4);refine Ok.condR (fun h5=>?_) (fun h5=>?_)
 ·(try simp only [B] at h5);refine EW _ ?_;(try simp only [N]);omega
 (try simp only [B] at h5);refine Ok.bind (Ok.idx ?_ ?_) (fun e8 P8=>?_)
 iterate 2 (·(try simp only [N]);omega)
 have U2:=wA P8;(try simp only [N] at U2);refine Ok.chk ?_ ?_
 ·(try simp only [B]);omega
 refine Ok.bind (Ok.get ?_) (fun e9 MZ=>?_)
 ·(try simp only [N]);omega
 have UX:=wA MZ;(try simp only [N] at UX);refine Ok.guard ?_ ?_
 ·(try simp only [N]);omega
 refine fW _ ?_ ?_
 iterate 2 (·(try have:=zA (a:=x6.2) (b:=1) (by omega) (by omega));(try simp only [N]);omega)
theorem LJ {a0:Int} {a1:G.Frame} (ha:wt a1≤1000000000):Ok (fH.raw a0 a1) fun r=>r.length≤160:=by
 (try simp only [N] at ha);have hL:=qA
 unfold fH.raw
 refine Ok.joinR (fun y1:Bool=>y1=false→wt a1≤112) (fun k2 NV=>?_) (fun y1 UV=>?_)
 ·refine Ok.cond' (fun h1=>?_) (fun h1=>?_)
  ·exact NV _ fun h=>nomatch h
  (try simp only [B] at h1);refine Ok.cond' (fun h2=>?_) (fun h2=>?_)
  ·exact NV _ fun h=>nomatch h
  (try simp only [B] at h2);have f3:=mI h2;(try simp only [N] at f3);refine NV _ fun q4=>?_;(try simp only [B] at q4);(try simp only [N]);omega
 refine Ok.cond' (fun h5=>?_) (fun h5=>?_)
 ·refine Ok.some' ?_;(try simp only [N]);omega
 replace UV:=UV h5;(try simp only [N] at UV);refine Ok.bind (iT ?_) (fun r3 YV=>?_)
 ·(try simp only [N]);omega
 (try simp only [N] at YV);refine Ok.guard ?_ ?_
 ·(try simp only [N]);omega
 refine Ok.guard ?_ ?_
 ·(try simp only [N]);omega
 refine Ok.guard ?_ ?_
 ·(try simp only [N]);omega
 refine Ok.some' ?_;(try simp only [N]);omega
theorem RO {a0:List UInt8} {a1:List UInt8}:Ok (KI.raw a0 a1) fun r=>r.length≤16:=by
 have hL:=qA;have hm:=rR a0 a1;(try simp only [N] at hm)
 unfold KI.raw
 refine Ok.cond' (fun h1=>?_) (fun h1=>?_)
 ·(try simp only [B] at h1);refine Ok.some' ?_;(try simp only [N]);omega
 (try simp only [B] at h1);refine Ok.chk ?_ ?_
 ·(try simp only [B]);omega
 refine Ok.guard ?_ ?_
 ·(try simp only [N]);omega
 refine Ok.some' ?_;(try simp only [N]);omega
theorem zbZ {a0:List UInt8} {a1:Int} {a2:List UInt8} {a3:Int} {a4:Int} {a5:Int} {a6:List UInt8} (ha:wt a0≤1000000000) (hb:wt a2≤1000000000) (hc:wt a6≤1000000000):Ok (WL.raw a0 a1 a2 a3 a4 a5 a6) fun r=>(wt r.1≤300)∧(r.2=true→a2.length=12∧a0.length=32):=by
 (try simp only [N] at ha);(try simp only [N] at hb);(try simp only [N] at hc);have hL:=qA
 unfold WL.raw
 refine Ok.bind (iT ?_) (fun r1 MV=>?_)
 ·(try simp only [N]);omega
 (try simp only [N] at MV);refine Ok.joinR (fun y2:Bool=>y2=false→a2.length=12∧a0.length=32) (fun k3 PV=>?_) (fun y2 WV=>?_)
 ·refine Ok.cond' (fun h1=>?_) (fun h1=>?_)
  ·exact PV _ fun h=>nomatch h
  (try simp only [B] at h1);refine Ok.cond' (fun h2=>?_) (fun h2=>?_)
  ·exact PV _ fun h=>nomatch h
  (try simp only [B] at h2);refine Ok.cond' (fun h3=>?_) (fun h3=>?_)
  ·exact PV _ fun h=>nomatch h
  (try simp only [B] at h3);refine PV _ fun q4=>?_;(try simp only [B] at q4);(try simp only [N]);omega
 refine Ok.cond' (fun h5=>?_) (fun h5=>?_)
 ·refine Ok.some' ⟨?_,?_⟩
  ·(try simp only [N]);omega
  ·exact fun h=>nomatch h
 replace WV:=WV h5;(try simp only [N] at WV);refine Ok.guard ?_ ?_
 ·(try simp only [N]);omega
 refine Ok.bind (zbV ?_ ?_) (fun r4 SV=>?_)
 iterate 2 (·(try simp only [N]);omega)
 (try simp only [N] at SV);refine Ok.join (fun y5:G.Frame=>wt y5≤280) (fun y5 AZ=>?_) (fun k6 kX=>?_)
 ·(try simp only [N] at AZ);refine Ok.bind (LJ ?_) (fun r9 gX=>?_)
  ·(try simp only [N]);omega
  (try simp only [N] at gX);refine Ok.bind (RO) (fun r10 BW=>?_);(try simp only [N] at BW);refine Ok.some' ⟨?_,?_⟩
  ·(try simp only [N]);omega
  ·intro q6;(try simp only at q6);(try simp only [N]);omega
 refine Ok.loopR (fun x7:Int × G.Frame=>0≤x7.1∧x7.1≤16∧x7.2.Tag.length=x7.1∧wt x7.2≤212+x7.1) (fun x7=>(16 - x7.1).toNat) ?_ ?_ (fun x7 hx7 k8 AX=>?_)
 iterate 2 (·(try simp only [N]);omega)
 (try simp only [N] at hx7);refine Ok.condR (fun h7=>?_) (fun h7=>?_)
 ·(try simp only [B] at h7);refine kX _ ?_;(try simp only [N]);omega
 (try simp only [B] at h7);refine Ok.guard ?_ ?_
 ·(try simp only [N]);omega
 refine AX _ ?_ ?_
 iterate 2 (·(try have:=zA (a:=x7.1) (b:=1) (by omega) (by omega));(try simp only [N]);omega)
theorem ztj {a0:List UInt8} {a1:Int} {a2:Int} {a3:List UInt8} {a4:Int} {a5:Int} {a6:Int} {a7:List UInt8} (ha:wt a0≤1000000000) (hb:wt a3≤1000000000) (hc:wt a7≤1000000000):Ok (eT.raw a0 a1 a2 a3 a4 a5 a6 a7) fun r=>wt r≤1000:=by
 (try simp only [N] at ha);(try simp only [N] at hb);(try simp only [N] at hc);have hL:=qA
 unfold eT.raw
 refine Ok.bind (zbZ ?_ ?_ ?_) (fun r1 MV=>?_)
 iterate 3 (·(try simp only [N]);omega)
 obtain ⟨MV,UZ⟩:=MV;(try simp only [N] at MV);refine Ok.joinR (fun y2:Bool=>y2=false→a3.length=12) (fun k3 PV=>?_) (fun y2 WV=>?_)
 ·refine Ok.cond' (fun h1=>?_) (fun h1=>?_)
  ·exact PV _ fun h=>nomatch h
  (try simp only [B] at h1);replace UZ:=UZ h1;(try simp only [N] at UZ);refine PV _ fun q2=>?_;(try simp only [B] at q2);(try simp only [N]);omega
 refine Ok.cond' (fun h3=>?_) (fun h3=>?_)
 ·refine Ok.some' ?_;(try simp only [N]);omega
 replace WV:=WV h3;(try simp only [N] at WV);refine Ok.guard ?_ ?_
 ·(try simp only [N]);omega
 refine Ok.bind (ZE ?_) (fun r4 SV=>?_)
 ·(try simp only [N]);omega
 (try simp only [N] at SV);refine Ok.bind (ZE ?_) (fun r5 TV=>?_)
 ·(try simp only [N]);omega
 (try simp only [N] at TV);refine Ok.bind (LJ ?_) (fun r6 lW=>?_)
 ·(try simp only [N]);omega
 (try simp only [N] at lW);refine Ok.guard ?_ ?_
 ·(try simp only [N]);omega
 refine Ok.some' ?_;(try simp only [N]);omega
theorem zbX {a0:G.Frame} (ha:wt a0≤1000000000):Ok (RL.raw a0) fun r=>r.length≤200:=by
 (try simp only [N] at ha);have hL:=qA
 unfold RL.raw
 refine Ok.cond' (fun h1=>?_) (fun h1=>?_)
 ·(try simp only [B] at h1);refine Ok.some' ?_;(try simp only [N]);omega
 (try simp only [B] at h1);have f2:=mI h1;(try simp only [N] at f2);refine Ok.join (fun y1:(List UInt8)=>y1.length≤200) (fun y1 UV=>?_) (fun k2 NV=>?_)
 ·(try simp only [N] at UV);refine Ok.some' ?_;(try simp only [N]);omega
 refine Ok.cond' (fun h3=>?_) (fun h3=>?_)
 ·(try simp only [B] at h3);refine Ok.guard ?_ ?_
  ·(try simp only [N]);omega
  refine Ok.guard ?_ ?_
  ·(try simp only [N]);omega
  refine Ok.join (fun y4:(List UInt8)=>y4.length≤200) (fun y4 aY=>?_) (fun k5 EW=>?_)
  ·(try simp only [N] at aY);refine NV _ ?_;(try simp only [N]);omega
  refine Ok.loopR (fun x6:(List UInt8) × Int=>0≤x6.2∧x6.2≤20∧x6.1.length≤140+x6.2) (fun x6=>(20 - x6.2).toNat) ?_ ?_ (fun x6 S4 k7 fW=>?_)
  iterate 2 (·(try simp only [N]);omega)
  (try simp only [N] at S4);refine Ok.condR (fun h4=>?_) (fun h4=>?_)
  ·(try simp only [B] at h4);refine EW _ ?_;(try simp only [N]);omega
  (try simp only [B] at h4);refine Ok.guard ?_ ?_
  ·(try simp only [N]);omega
  refine fW _ ?_ ?_
  iterate 2 (·(try have:=zA (a:=x6.2) (b:=1) (by omega) (by omega));(try simp only [N]);omega)
 (try simp only [B] at h3);refine Ok.join (fun y8:(List UInt8)=>y8.length≤200) (fun y8 s4=>?_) (fun k9 LX=>?_)
 ·(try simp only [N] at s4);refine NV _ ?_;(try simp only [N]);omega
 refine Ok.cond' (fun h5=>?_) (fun h5=>?_)
 ·(try simp only [B] at h5);refine Ok.guard ?_ ?_
  ·(try simp only [N]);omega
  refine Ok.guard ?_ ?_
  ·(try simp only [N]);omega
  refine Ok.bind (ZE ?_) (fun r11 vW=>?_)
  ·(try simp only [N]);omega
  (try simp only [N] at vW);refine Ok.guard ?_ ?_
  ·(try simp only [N]);omega
  refine LX _ ?_;(try simp only [N]);omega
 (try simp only [B] at h5);refine Ok.join (fun y12:(List UInt8)=>y12.length≤200) (fun y12 OX=>?_) (fun k13 GW=>?_)
 ·(try simp only [N] at OX);refine LX _ ?_;(try simp only [N]);omega
 refine Ok.condR (fun h6=>?_) (fun h6=>?_)
 ·(try simp only [B] at h6);refine Ok.guard ?_ ?_
  ·(try simp only [N]);omega
  refine Ok.bind (ZE ?_) (fun r17 rX=>?_)
  ·(try simp only [N]);omega
  (try simp only [N] at rX);refine Ok.bind (ZE ?_) (fun r18 sX=>?_)
  ·(try simp only [N]);omega
  (try simp only [N] at sX);refine Ok.guard ?_ ?_
  ·(try simp only [N]);omega
  refine Ok.guard ?_ ?_
  ·(try simp only [N]);omega
  refine GW _ ?_;(try simp only [N]);omega
 (try simp only [B] at h6);refine Ok.guard ?_ ?_
 ·(try simp only [N]);omega
 refine Ok.guard ?_ ?_
 ·(try simp only [N]);omega
 refine Ok.guard ?_ ?_
 ·(try simp only [N]);omega
 refine Ok.bind (ZE ?_) (fun r15 tW=>?_)
 ·(try simp only [N]);omega
 (try simp only [N] at tW);refine Ok.guard ?_ ?_
 ·(try simp only [N]);omega
 refine Ok.guard ?_ ?_
 ·(try simp only [N]);omega
 refine GW _ ?_;(try simp only [N]);omega
theorem zb0 {a0:G.Addr} {a1:G.Addr} {a2:G.Frame} (ha:wt a2≤1000000000):Ok (dM.raw a0 a1 a2) fun r=>wt r≤200:=by
 (try simp only [N] at ha);have hL:=qA
 unfold dM.raw
 refine Ok.bind (zbX ?_) (fun r1 MV=>?_)
 ·(try simp only [N]);omega
 (try simp only [N] at MV);refine Ok.some' ?_;(try simp only [N]);omega
theorem zb2 {a0:G.Client} {a1:List G.Frame} (ha:wt a0≤1000000000) (hb:wt a1≤1000000):Ok (uM.raw a0 a1) fun r=>wt r≤201 *a1.length:=by
 (try simp only [N] at ha);(try simp only [N] at hb);have hL:=qA;have hw:=CB a1;(try simp only [N] at hw)
 unfold uM.raw
 refine Ok.join (fun y1:(List G.Wire)=>wt y1≤201 *a1.length) (fun y1 UV=>?_) (fun k2 NV=>?_)
 ·(try simp only [N] at UV);refine Ok.some' ?_;(try simp only [N]);omega
 refine Ok.loopR (fun x3:(List G.Wire) × Int=>0≤x3.2∧x3.2≤(a1.length:Int)∧wt x3.1≤201 *x3.2) (fun x3=>((a1.length:Int) - x3.2).toNat) ?_ ?_ (fun x3 XY k4 bW=>?_)
 iterate 2 (·(try simp only [N]);omega)
 (try simp only [N] at XY);refine Ok.condR (fun h1=>?_) (fun h1=>?_)
 ·(try simp only [B] at h1);refine NV _ ?_;(try simp only [N]);omega
 (try simp only [B] at h1);refine Ok.bind (Ok.idx ?_ ?_) (fun e6 FZ=>?_)
 iterate 2 (·(try simp only [N]);omega)
 have CX:=wA FZ;(try simp only [N] at CX);refine Ok.bind (zb0 ?_) (fun r7 KW=>?_)
 ·(try simp only [N]);omega
 (try simp only [N] at KW);refine Ok.guard ?_ ?_
 ·(try simp only [N]);omega
 refine bW _ ?_ ?_
 iterate 2 (·(try have:=zA (a:=x3.2) (b:=1) (by omega) (by omega));(try simp only [N]);omega)
theorem zgJ {a0:List G.Out} (ha:wt a0≤1000000):Ok (nP.raw a0) fun r=>wt r≤201 *a0.length:=by
 (try simp only [N] at ha);have hL:=qA;have hw:=CB a0;(try simp only [N] at hw)
 unfold nP.raw
 refine Ok.join (fun y1:(List G.Wire)=>wt y1≤201 *a0.length) (fun y1 UV=>?_) (fun k2 NV=>?_)
 ·(try simp only [N] at UV);refine Ok.some' ?_;(try simp only [N]);omega
 refine Ok.loopR (fun x3:(List G.Wire) × Int=>0≤x3.2∧x3.2≤(a0.length:Int)∧wt x3.1≤201 *x3.2) (fun x3=>((a0.length:Int) - x3.2).toNat) ?_ ?_ (fun x3 XY k4 bW=>?_)
 iterate 2 (·(try simp only [N]);omega)
 (try simp only [N] at XY);refine Ok.condR (fun h1=>?_) (fun h1=>?_)
 ·(try simp only [B] at h1);refine NV _ ?_;(try simp only [N]);omega
 (try simp only [B] at h1);refine Ok.bind (Ok.idx ?_ ?_) (fun e6 FZ=>?_)
 iterate 2 (·(try simp only [N]);omega)
 have CX:=wA FZ;(try simp only [N] at CX);refine Ok.bind (Ok.idx ?_ ?_) (fun e7 H0=>?_)
 iterate 2 (·(try simp only [N]);omega)
 have TX:=wA H0;(try simp only [N] at TX);refine Ok.bind (zb0 ?_) (fun r8 xW=>?_)
 ·(try simp only [N]);omega
 (try simp only [N] at xW);refine Ok.guard ?_ ?_
 ·(try simp only [N]);omega
 refine bW _ ?_ ?_
 iterate 2 (·(try have:=zA (a:=x3.2) (b:=1) (by omega) (by omega));(try simp only [N]);omega)
theorem ztJ {a0:G.Frame} (ha:wt a0≤1000000000):Ok (JT.raw a0) fun r=>True:=by
 (try simp only [N] at ha);have hL:=qA
 unfold JT.raw
 refine Ok.bind (zbX ?_) (fun r1 MV=>?_)
 ·(try simp only [N]);omega
 (try simp only [N] at MV);exact Ok.some' trivial
theorem zgj {a0:List UInt8} (ha:wt a0≤900000000):Ok (BO.raw a0) fun r=>wt r.1≤400:=by
 (try simp only [N] at ha);have hL:=qA
 unfold BO.raw
 refine Ok.cond' (fun h1=>?_) (fun h1=>?_)
 ·(try simp only [B] at h1);refine Ok.some' ?_;(try simp only [N]);omega
 (try simp only [B] at h1);refine Ok.bind (Ok.idx ?_ ?_) (fun e1 EZ=>?_)
 iterate 2 (·(try simp only [N]);omega)
 have R5:=wA EZ;(try simp only [N] at R5);refine Ok.join (fun y3:G.Frame × G.Frame=>wt y3.2≤a0.length+100) (fun y3 cX=>?_) (fun k4 bW=>?_)
 ·(try simp only [N] at cX);refine Ok.bind (zbX ?_) (fun r28 VZ=>?_)
  ·(try simp only [N]);omega
  (try simp only [N] at VZ);refine Ok.ble ?_ ?_
  ·(try simp only [N]);omega
  refine Ok.ble ?_ ?_
  ·(try simp only [N]);omega
  refine Ok.condR (fun h2=>?_) (fun h2=>?_)
  ·(try simp only [B] at h2);have:=congrArg List.length h2;refine Ok.some' ?_;(try simp only [N]);omega
  (try simp only [B] at h2);refine Ok.some' ?_;(try simp only [N]);omega
 refine Ok.cond' (fun h3=>?_) (fun h3=>?_)
 ·(try simp only [B] at h3);refine Ok.cond' (fun h4=>?_) (fun h4=>?_)
  ·(try simp only [B] at h4);refine Ok.some' ?_;(try simp only [N]);omega
  (try simp only [B] at h4);refine Ok.bind (Ok.idx ?_ ?_) (fun e5 jZ=>?_)
  iterate 2 (·(try simp only [N]);omega)
  have mY:=wA jZ;(try simp only [N] at mY);refine Ok.chk ?_ ?_
  ·(try simp only [B]);omega
  refine Ok.guard ?_ ?_
  ·(try simp only [N]);omega
  refine bW _ ?_;(try simp only [N]);omega
 (try simp only [B] at h3);refine Ok.join (fun y8:G.Frame × G.Frame=>wt y8.2≤a0.length+100) (fun y8 s4=>?_) (fun k9 LX=>?_)
 ·(try simp only [N] at s4);refine bW _ ?_;(try simp only [N]);omega
 refine Ok.cond' (fun h5=>?_) (fun h5=>?_)
 ·(try simp only [B] at h5);refine Ok.cond' (fun h6=>?_) (fun h6=>?_)
  ·(try simp only [B] at h6);refine Ok.some' ?_;(try simp only [N]);omega
  (try simp only [B] at h6);refine Ok.chk ?_ ?_
  ·(try simp only [B]);omega
  refine Ok.guard ?_ ?_
  ·(try simp only [N]);omega
  refine Ok.chk ?_ ?_
  ·(try simp only [B]);omega
  refine Ok.guard ?_ ?_
  ·(try simp only [N]);omega
  refine Ok.bind (pR ?_) (fun r12 aW=>?_)
  ·(try simp only [N]);omega
  (try simp only [N] at aW);refine Ok.chk ?_ ?_
  ·(try simp only [B]);omega
  refine Ok.guard ?_ ?_
  ·(try simp only [N]);omega
  refine LX _ ?_;(try simp only [N]);omega
 (try simp only [B] at h5);refine Ok.join (fun y14:G.Frame × G.Frame=>wt y14.2≤a0.length+100) (fun y14 NY=>?_) (fun k15 nX=>?_)
 ·(try simp only [N] at NY);refine LX _ ?_;(try simp only [N]);omega
 refine Ok.condR (fun h7=>?_) (fun h7=>?_)
 ·(try simp only [B] at h7);refine Ok.cond' (fun h8=>?_) (fun h8=>?_)
  ·(try simp only [B] at h8);refine Ok.some' ?_;(try simp only [N]);omega
  (try simp only [B] at h8);refine Ok.chk ?_ ?_
  ·(try simp only [B]);omega
  refine Ok.guard ?_ ?_
  ·(try simp only [N]);omega
  refine Ok.bind (pR ?_) (fun r24 wY=>?_)
  ·(try simp only [N]);omega
  (try simp only [N] at wY);refine Ok.bind (pR ?_) (fun r25 QW=>?_)
  ·(try simp only [N]);omega
  (try simp only [N] at QW);refine Ok.chk ?_ ?_
  ·(try simp only [B]);omega
  refine Ok.guard ?_ ?_
  ·(try simp only [N]);omega
  refine Ok.chk ?_ ?_
  ·(try simp only [B]);omega
  refine Ok.guard ?_ ?_
  ·(try simp only [N]);omega
  refine nX _ ?_;(try simp only [N]);omega
 (try simp only [B] at h7);refine Ok.cond' (fun h9=>?_) (fun h9=>?_)
 ·(try simp only [B] at h9);refine Ok.some' ?_;(try simp only [N]);omega
 (try simp only [B] at h9);refine Ok.bind (Ok.idx ?_ ?_) (fun e16 SY=>?_)
 iterate 2 (·(try simp only [N]);omega)
 have lY:=wA SY;(try simp only [N] at lY);refine Ok.chk ?_ ?_
 ·(try simp only [B]);omega
 refine Ok.guard ?_ ?_
 ·(try simp only [N]);omega
 refine Ok.chk ?_ ?_
 ·(try simp only [B]);omega
 refine Ok.guard ?_ ?_
 ·(try simp only [N]);omega
 refine Ok.bind (pR ?_) (fun r20 wX=>?_)
 ·(try simp only [N]);omega
 (try simp only [N] at wX);refine Ok.chk ?_ ?_
 ·(try simp only [B]);omega
 refine Ok.guard ?_ ?_
 ·(try simp only [N]);omega
 refine Ok.chk ?_ ?_
 ·(try simp only [B]);omega
 refine Ok.guard ?_ ?_
 ·(try simp only [N]);omega
 refine nX _ ?_;(try simp only [N]);omega
end Go.D
namespace Go.D
theorem zuF {a0:Int}:Ok (PU.raw a0) fun r=>True:=by
 have hL:=qA
 unfold PU.raw
 refine Ok.cond' (fun h1=>?_) (fun h1=>?_)
 ·(try simp only [B] at h1);exact Ok.some' trivial
 (try simp only [B] at h1);exact Ok.some' trivial
theorem zgv {a0:G.Win} {a1:Int}:Ok (UO.raw a0 a1) fun r=>(True)∧(r=true→a0.Bits.length=32∧0≤a1∧a1≤281474976710655∧ -1≤a0.Top∧a0.Top≤281474976710655):=by
 have hL:=qA
 unfold UO.raw
 refine Ok.joinR (fun y1:Bool=>y1=false→a0.Bits.length=32∧0≤a1∧a1≤281474976710655∧ -1≤a0.Top∧a0.Top≤281474976710655) (fun k2 NV=>?_) (fun y1 UV=>?_)
 ·refine Ok.cond' (fun h1=>?_) (fun h1=>?_)
  ·exact NV _ fun h=>nomatch h
  (try simp only [B] at h1);have f2:=zvj h1;(try simp only [N] at f2);refine NV _ fun q3=>?_;(try simp only [B] at q3);(try simp only [N]);omega
 refine Ok.cond' (fun h4=>?_) (fun h4=>?_)
 ·refine Ok.some' ⟨?_,?_⟩
  ·trivial
  ·exact fun h=>nomatch h
 replace UV:=UV h4;(try simp only [N] at UV);refine Ok.join (fun y3:Bool=>True) (fun y3 cX=>?_) (fun k4 bW=>?_)
 ·refine Ok.some' ⟨?_,?_⟩
  ·trivial
  ·intro q5;(try simp only [B] at q5);(try simp only [N]);omega
 refine Ok.cond' (fun h6=>?_) (fun h6=>?_)
 ·exact bW _ trivial
 (try simp only [B] at h6);refine Ok.bind (zuF) (fun r5 TV=>?_);refine Ok.condR (fun h7=>?_) (fun h7=>?_)
 ·exact bW _ trivial
 (try simp only [B] at h7);refine Ok.bind (zhE ?_) (fun r6 lW=>?_)
 ·(try simp only [N]);omega
 (try simp only [N] at lW);exact bW _ trivial
theorem zcI {n:Int} (h0:0≤n):GA .i64 n 1024=n % 1024:=zbg h0
theorem zcJ {n:Int} (h0:0≤n) (h1:n<1024):SC .i64 n 32=n / 32:=by
 unfold SC
 rw [Int.tdiv_eq_ediv_of_nonneg h0,fC (by omega) (by omega)]
theorem zgu {a0:G.Win} {a1:Int} (ha:wt a0≤1000000000):Ok (TO.raw a0 a1) fun r=>wt r.1≤wt a0∧wt a0≤wt r.1:=by
 have hL:=qA
 unfold TO.raw
 simp only [N] at ha
 refine Ok.same (XA (p:=wt a0≤bA) ?_) ?_
 ·simp only [N];omega
 refine Ok.bind zgv (fun r2 VV=>?_)
 refine Ok.cond' (fun h=>Ok.some' ?_) (fun h=>?_)
 ·simp only [N];omega
 ·simp only [B] at h
  have hm:=VV.2 h
  have e1:=zcI hm.2.1
  have e2:=zcJ (n:=a1 % 1024) (by omega) (by omega)
  have e3:=zbg (a:=a1 % 1024) (b:=32) (by omega)
  rw [e1,e2,e3]
  refine Ok.join (fun y:G.Win=>y.Bits.length=32) (fun y hy=>?_) (fun k hk=>?_)
  ·refine Ok.chk ?_ ?_
   ·simp only [B];omega
   refine Ok.bind (Ok.get ?_) (fun e he=>?_)
   ·omega
   refine Ok.chkn ?_ ?_
   ·simp only [B];omega
   refine Ok.chk ?_ ?_
   ·simp only [B];omega
   refine Ok.bind (Ok.get ?_) (fun e' YX=>?_)
   ·omega
   refine Ok.join (fun z:G.Win=>z.Bits.length=32) (fun z hz=>?_) (fun k' JY=>?_)
   ·refine Ok.some' ?_
    simp only [N];omega
   ·refine Ok.cond' (fun _=>JY _ ?_) (fun _=>JY _ ?_)
    ·simp only [N];exact hy
    ·simp only [N];exact hy
  ·refine Ok.loop (fun x:Int × Int × G.Win=>0≤x.2.1∧x.2.1≤281474976710656∧0≤x.1∧x.1≤1024∧x.2.2.Bits.length=32) (fun x=>(1025 - x.1).toNat) (fun x hx k' JY=>?_) ?_ ?_
   ·have f1:=zcI hx.1
    have f2:=zcJ (n:=x.2.1 % 1024) (by omega) (by omega)
    have f3:=zbg (a:=x.2.1 % 1024) (b:=32) (by omega)
    rw [f1,f2,f3]
    refine Ok.join (fun y:Bool=>y=true→x.1<1024∧x.2.1≤a1) (fun y hy=>?_) (fun k2 NV=>?_)
    ·refine Ok.cond' (fun h=>?_) (fun _=>hk _ hx.2.2.2.2)
     have hy:=hy h
     refine Ok.chk ?_ ?_
     ·simp only [B];omega
     refine Ok.bind (Ok.get ?_) (fun e he=>?_)
     ·omega
     refine Ok.chkn ?_ ?_
     ·simp only [B];omega
     refine Ok.chk ?_ ?_
     ·simp only [B];omega
     refine Ok.bind (Ok.get ?_) (fun e' YX=>?_)
     ·omega
     have g1:=zA (a:=x.1) (b:=1) (by omega) (by omega)
     have g2:=zA (a:=x.2.1) (b:=1) (by omega) (by omega)
     refine JY _ ?_ ?_
     ·simp only [N];omega
     ·simp only;omega
    ·refine Ok.cond' (fun h=>NV _ fun q=>?_) (fun _=>NV _ fun q=>nomatch q)
     simp only [B] at h q
     omega
   ·have g:=zA (a:=a0.Top) (b:=1) (by omega) (by omega)
    simp only;omega
   ·simp only;omega
theorem zgw:Ok (VO.raw ) fun r=>wt r≤32∧32≤wt r:=by
 have hL:=qA
 unfold VO.raw
 refine Ok.join (fun y1:G.Win=>wt y1≤32∧32≤wt y1) (fun y1 UV=>?_) (fun k2 NV=>?_)
 ·(try simp only [N] at UV);refine Ok.some' ?_;(try simp only [N]);omega
 refine Ok.loopR (fun x3:Int × G.Win=>0≤x3.1∧x3.1≤32∧x3.2.Bits.length=x3.1) (fun x3=>(32 - x3.1).toNat) ?_ ?_ (fun x3 XY k4 bW=>?_)
 iterate 2 (·(try simp only [N]);omega)
 (try simp only [N] at XY);refine Ok.condR (fun h1=>?_) (fun h1=>?_)
 ·(try simp only [B] at h1);refine NV _ ?_;(try simp only [N]);omega
 (try simp only [B] at h1);refine Ok.guard ?_ ?_
 ·(try simp only [N]);omega
 refine bW _ ?_ ?_
 iterate 2 (·(try have:=zA (a:=x3.1) (b:=1) (by omega) (by omega));(try simp only [N]);omega)
theorem wO {a0:Int} {a1:List UInt8} (ha:wt a1≤1000000000):Ok (II.raw a0 a1) fun r=>wt r≤64:=by
 (try simp only [N] at ha);have hL:=qA
 unfold II.raw
 refine Ok.joinR (fun y1:Bool=>y1=false→a1.length=32) (fun k2 NV=>?_) (fun y1 UV=>?_)
 ·refine Ok.cond' (fun h1=>?_) (fun h1=>?_)
  ·exact NV _ fun h=>nomatch h
  (try simp only [B] at h1);refine NV _ fun q2=>?_;(try simp only [B] at q2);(try simp only [N]);omega
 refine Ok.cond' (fun h3=>?_) (fun h3=>?_)
 ·refine Ok.some' ?_;(try simp only [N]);omega
 replace UV:=UV h3;(try simp only [N] at UV);refine Ok.guard ?_ ?_
 ·(try simp only [N]);omega
 refine Ok.bind (zgw) (fun r3 YV=>?_);(try simp only [N] at YV);refine Ok.some' ?_;(try simp only [N]);omega
theorem zbP {a0:Int} {a1:List UInt8} {a2:List UInt8} (ha:wt a1≤1000000000) (hb:wt a2≤1000000000):Ok (sL.raw a0 a1 a2) fun r=>wt r≤76:=by
 (try simp only [N] at ha);(try simp only [N] at hb);have hL:=qA
 unfold sL.raw
 refine Ok.joinR (fun y1:Bool=>y1=false→a1.length=12∧a2.length=32) (fun k2 NV=>?_) (fun y1 UV=>?_)
 ·refine Ok.cond' (fun h1=>?_) (fun h1=>?_)
  ·exact NV _ fun h=>nomatch h
  (try simp only [B] at h1);refine Ok.cond' (fun h2=>?_) (fun h2=>?_)
  ·exact NV _ fun h=>nomatch h
  (try simp only [B] at h2);refine NV _ fun q3=>?_;(try simp only [B] at q3);(try simp only [N]);omega
 refine Ok.cond' (fun h4=>?_) (fun h4=>?_)
 ·refine Ok.some' ?_;(try simp only [N]);omega
 replace UV:=UV h4;(try simp only [N] at UV);refine Ok.guard ?_ ?_
 ·(try simp only [N]);omega
 refine Ok.bind (wO ?_) (fun r3 YV=>?_)
 ·(try simp only [N]);omega
 (try simp only [N] at YV);refine Ok.some' ?_;(try simp only [N]);omega
theorem zte {a0:G.Ep} {a1:Int} {a2:List UInt8} {a3:Int} {a4:List UInt8} (ha:wt a0≤1000000000) (hb:wt a2≤1000000000) (hc:wt a4≤1000000000):Ok (aT.raw a0 a1 a2 a3 a4) fun r=>wt r.1≤wt a0∧wt r.2.1≤300:=by
 (try simp only [N] at ha);(try simp only [N] at hb);(try simp only [N] at hc);have hL:=qA
 unfold aT.raw
 refine Ok.same (XA ?_) ?_
 ·(try simp only [N]);omega
 refine Ok.joinR (fun y2:Bool=>True) (fun k3 PV=>?_) (fun y2 WV=>?_)
 ·refine Ok.cond' (fun h1=>?_) (fun h1=>?_)
  ·exact PV _ trivial
  (try simp only [B] at h1);have f2:=WQ h1;(try simp only [N] at f2);refine Ok.bind (iT ?_) (fun r4 SV=>?_)
  ·(try simp only [N]);omega
  (try simp only [N] at SV);refine Ok.cond' (fun h3=>?_) (fun h3=>?_)
  ·exact PV _ trivial
  (try simp only [B] at h3);refine Ok.cond' (fun h4=>?_) (fun h4=>?_)
  ·exact PV _ trivial
  exact PV _ trivial
 refine Ok.cond' (fun h5=>?_) (fun h5=>?_)
 ·refine Ok.some' ?_;(try simp only [N]);omega
 refine Ok.joinR (fun y5:Bool=>True) (fun k6 kX=>?_) (fun y5 AZ=>?_)
 ·refine Ok.condR (fun h6=>?_) (fun h6=>?_)
  ·exact kX _ trivial
  exact kX _ trivial
 refine Ok.cond' (fun h7=>?_) (fun h7=>?_)
 ·refine Ok.some' ?_;(try simp only [N]);omega
 refine Ok.cond' (fun h8=>?_) (fun h8=>?_)
 ·(try simp only [B] at h8);refine Ok.some' ?_;(try simp only [N]);omega
 (try simp only [B] at h8);refine Ok.bind (zbZ ?_ ?_ ?_) (fun r7 KW=>?_)
 iterate 3 (·(try simp only [N]);omega)
 obtain ⟨KW,hr7i⟩:=KW;(try simp only [N] at KW);refine Ok.some' ?_;(try have:=zA (a:=a0.Seq) (b:=1) (by omega) (by omega));(try simp only [N]);omega
theorem uL {a0:G.Chan} {a1:Int} {a2:List UInt8} (ha:wt a0≤1000000000) (hb:wt a2≤1000000000):Ok (SH.raw a0 a1 a2) fun r=>wt r.1≤wt a0∧wt r.2.1≤300:=by
 (try simp only [N] at ha);(try simp only [N] at hb);have hL:=qA
 unfold SH.raw
 refine Ok.same (XA ?_) ?_
 ·(try simp only [N]);omega
 refine Ok.bind (NG ?_) (fun r2 VV=>?_)
 ·(try simp only [N]);omega
 refine Ok.cond' (fun h1=>?_) (fun h1=>?_)
 ·(try simp only [B] at h1);refine Ok.some' ?_;(try simp only [N]);omega
 (try simp only [B] at h1);replace VV:=VV h1;(try simp only [N] at VV);refine Ok.bind (zte ?_ ?_ ?_) (fun r3 YV=>?_)
 iterate 3 (·(try simp only [N]);omega)
 (try simp only [N] at YV);refine Ok.join (fun y4:G.Chan=>wt y4≤wt a0) (fun y4 aY=>?_) (fun k5 EW=>?_)
 ·(try simp only [N] at aY);refine Ok.some' ?_;(try simp only [N]);omega
 refine Ok.condR (fun h2=>?_) (fun h2=>?_)
 ·(try simp only [B] at h2);refine EW _ ?_;(try simp only [N]);omega
 (try simp only [B] at h2);refine EW _ ?_;(try simp only [N]);omega
theorem zbT {a0:List UInt8} {a1:List UInt8} (ha:wt a0≤1000000000) (hb:wt a1≤1000000000):Ok (JL.raw a0 a1) fun r=>wt r≤a0.length+a1.length:=by
 (try simp only [N] at ha);(try simp only [N] at hb);have hL:=qA
 unfold JL.raw
 refine Ok.guard ?_ ?_
 ·(try simp only [N]);omega
 refine Ok.guard ?_ ?_
 ·(try simp only [N]);omega
 refine Ok.some' ?_;(try simp only [N]);omega
theorem MI {a0:G.Chan} {a1:G.Frame} (ha:wt a0≤1000000000) (hb:wt a1≤1000000000):Ok (tG.raw a0 a1) fun r=>wt r≤a0.Cur.Key.length+160:=by
 (try simp only [N] at ha);(try simp only [N] at hb);have hL:=qA
 unfold tG.raw
 refine Ok.bind (LJ ?_) (fun r1 MV=>?_)
 ·(try simp only [N]);omega
 (try simp only [N] at MV);refine Ok.bind (zbT ?_ ?_) (fun r2 VV=>?_)
 iterate 2 (·(try simp only [N]);omega)
 (try simp only [N] at VV);refine Ok.some' ?_;(try simp only [N]);omega
theorem PT {a0:List UInt8} {a1:List UInt8} {a2:List UInt8} (ha:wt a0≤1000000000) (hb:wt a1≤1000000000) (hc:wt a2≤1000000000):Ok (NJ.raw a0 a1 a2) fun r=>wt r≤a0.length+a1.length+a2.length:=by
 (try simp only [N] at ha);(try simp only [N] at hb);(try simp only [N] at hc);have hL:=qA
 unfold NJ.raw
 refine Ok.guard ?_ ?_
 ·(try simp only [N]);omega
 refine Ok.guard ?_ ?_
 ·(try simp only [N]);omega
 refine Ok.guard ?_ ?_
 ·(try simp only [N]);omega
 refine Ok.some' ?_;(try simp only [N]);omega
theorem zgd {a0:G.Chan} {a1:Int} (ha:wt a0≤1000000000):Ok (sO.raw a0 a1) fun r=>wt r≤wt a0:=by
 (try simp only [N] at ha);have hL:=qA
 unfold sO.raw
 refine Ok.same (XA ?_) ?_
 ·(try simp only [N]);omega
 refine Ok.join (fun y2:Bool=>True) (fun y2 WV=>?_) (fun k3 PV=>?_)
 ·refine Ok.join (fun y5:G.Chan=>wt y5≤wt a0) (fun y5 AZ=>?_) (fun k6 kX=>?_)
  ·(try simp only [N] at AZ);refine Ok.some' ?_;(try simp only [N]);omega
  refine Ok.condR (fun h1=>?_) (fun h1=>?_)
  ·refine kX _ ?_;(try simp only [N]);omega
  refine kX _ ?_;(try simp only [N]);omega
 refine Ok.bind (NG ?_) (fun r4 SV=>?_)
 ·(try simp only [N]);omega
 refine Ok.condR (fun h2=>?_) (fun h2=>?_)
 ·exact PV _ trivial
 (try simp only [B] at h2);replace SV:=SV h2;(try simp only [N] at SV);refine Ok.condR (fun h3=>?_) (fun h3=>?_)
 ·exact PV _ trivial
 (try simp only [B] at h3);refine Ok.condR (fun h4=>?_) (fun h4=>?_)
 ·exact PV _ trivial
 (try simp only [B] at h4);refine Ok.condR (fun h5=>?_) (fun h5=>?_)
 ·exact PV _ trivial
 exact PV _ trivial
theorem wT {a0:Int}:Ok (KJ.raw a0) fun r=>r.length≤6:=by
 have hL:=qA
 unfold KJ.raw
 refine Ok.cond' (fun h1=>?_) (fun h1=>?_)
 ·(try simp only [B] at h1);refine Ok.some' ?_;(try simp only [N]);omega
 (try simp only [B] at h1);refine Ok.bind (ZE ?_) (fun r1 MV=>?_)
 ·(try simp only [N]);omega
 (try simp only [N] at MV);refine Ok.some' ?_;(try simp only [N]);omega
theorem zga {a0:G.Chan} (ha:wt a0≤1000000000):Ok (pO.raw a0) fun r=>wt r.1≤wt a0∧wt r.2.1≤300:=by
 (try simp only [N] at ha);have hL:=qA
 unfold pO.raw
 refine Ok.joinR (fun y1:Bool=>True) (fun k2 NV=>?_) (fun y1 UV=>?_)
 ·refine Ok.bind (NG ?_) (fun r3 YV=>?_)
  ·(try simp only [N]);omega
  refine Ok.cond' (fun h1=>?_) (fun h1=>?_)
  ·exact NV _ trivial
  exact NV _ trivial
 refine Ok.cond' (fun h2=>?_) (fun h2=>?_)
 ·refine Ok.same (XA ?_) ?_
  ·(try simp only [N]);omega
  refine Ok.some' ?_;(try simp only [N]);omega
 refine Ok.bind (wT) (fun r5 TV=>?_);(try simp only [N] at TV);refine Ok.bind (uL ?_ ?_) (fun r6 lW=>?_)
 iterate 2 (·(try simp only [N]);omega)
 (try simp only [N] at lW);refine Ok.some' ?_;(try simp only [N]);omega
theorem zf9 {a0:G.Chan} (ha:wt a0≤1000000000):Ok (oO.raw a0) fun r=>wt r.1≤wt a0∧wt r.2.1≤300:=by
 (try simp only [N] at ha);have hL:=qA
 unfold oO.raw
 refine Ok.joinR (fun y1:Bool=>True) (fun k2 NV=>?_) (fun y1 UV=>?_)
 ·refine Ok.bind (NG ?_) (fun r3 YV=>?_)
  ·(try simp only [N]);omega
  refine Ok.cond' (fun h1=>?_) (fun h1=>?_)
  ·exact NV _ trivial
  exact NV _ trivial
 refine Ok.cond' (fun h2=>?_) (fun h2=>?_)
 ·refine Ok.same (XA ?_) ?_
  ·(try simp only [N]);omega
  refine Ok.some' ?_;(try simp only [N]);omega
 refine Ok.bind (wT) (fun r5 TV=>?_);(try simp only [N] at TV);refine Ok.bind (uL ?_ ?_) (fun r6 lW=>?_)
 iterate 2 (·(try simp only [N]);omega)
 (try simp only [N] at lW);refine Ok.some' ?_;(try simp only [N]);omega
theorem ztR {a0:G.Chan} (ha:wt a0≤1000000000):Ok (ST.raw a0) fun r=>wt r.1≤wt a0+32:=by
 (try simp only [N] at ha);have hL:=qA
 unfold ST.raw
 refine Ok.same (XA ?_) ?_
 ·(try simp only [N]);omega
 refine Ok.join (fun y2:Bool=>True) (fun y2 WV=>?_) (fun k3 PV=>?_)
 ·refine Ok.cond' (fun h1=>?_) (fun h1=>?_)
  ·refine Ok.some' ?_;(try simp only [N]);omega
  refine Ok.bind (jI ?_) (fun r5 TV=>?_)
  ·(try simp only [N]);omega
  (try simp only [N] at TV);refine Ok.some' ?_;(try simp only [N]);omega
 refine Ok.bind (NG ?_) (fun r4 SV=>?_)
 ·(try simp only [N]);omega
 refine Ok.cond' (fun h2=>?_) (fun h2=>?_)
 ·exact PV _ trivial
 (try simp only [B] at h2);replace SV:=SV h2;(try simp only [N] at SV);refine Ok.cond' (fun h3=>?_) (fun h3=>?_)
 ·exact PV _ trivial
 (try simp only [B] at h3);refine Ok.cond' (fun h4=>?_) (fun h4=>?_)
 ·exact PV _ trivial
 exact PV _ trivial
theorem ztP {a0:G.Chan} (ha:wt a0≤1000000000):Ok (QT.raw a0) fun r=>wt r.1≤wt a0+64:=by
 (try simp only [N] at ha);have hL:=qA
 unfold QT.raw
 refine Ok.same (XA ?_) ?_
 ·(try simp only [N]);omega
 refine Ok.joinR (fun y2:Bool=>True) (fun k3 PV=>?_) (fun y2 WV=>?_)
 ·refine Ok.bind (NG ?_) (fun r4 SV=>?_)
  ·(try simp only [N]);omega
  refine Ok.cond' (fun h1=>?_) (fun h1=>?_)
  ·exact PV _ trivial
  (try simp only [B] at h1);replace SV:=SV h1;(try simp only [N] at SV);refine Ok.cond' (fun h2=>?_) (fun h2=>?_)
  ·exact PV _ trivial
  exact PV _ trivial
 refine Ok.cond' (fun h3=>?_) (fun h3=>?_)
 ·refine Ok.some' ?_;(try simp only [N]);omega
 refine Ok.bind (jI ?_) (fun r5 TV=>?_)
 ·(try simp only [N]);omega
 (try simp only [N] at TV);refine Ok.bind (wO ?_) (fun r6 lW=>?_)
 ·(try have:=zA (a:=a0.Cur.N) (b:=1) (by omega) (by omega));(try simp only [N]);omega
 (try simp only [N] at lW);refine Ok.some' ?_;(try simp only [N]);omega
theorem zta {a0:List UInt8} {a1:List UInt8} (ha:a0.length≤1000000000) (hb:a1.length≤1000000000):Ok (VS.raw a0 a1) fun r=>True:=by
 (try simp only [N] at ha);(try simp only [N] at hb);have hL:=qA
 unfold VS.raw
 refine Ok.cond' (fun h1=>?_) (fun h1=>?_)
 ·(try simp only [B] at h1);exact Ok.some' trivial
 (try simp only [B] at h1);refine Ok.join (fun y1:Int=>True) (fun y1 UV=>?_) (fun k2 NV=>?_)
 ·exact Ok.some' trivial
 refine Ok.loopR (fun x3:Int × Int=>0≤x3.2∧x3.2≤(a0.length:Int)) (fun x3=>((a0.length:Int) - x3.2).toNat) ?_ ?_ (fun x3 XY k4 bW=>?_)
 iterate 2 (·(try simp only);omega)
 (try simp only [N] at XY);refine Ok.condR (fun h2=>?_) (fun h2=>?_)
 ·exact NV _ trivial
 (try simp only [B] at h2);refine Ok.bind (Ok.idx ?_ ?_) (fun e5 jZ=>?_)
 iterate 2 (·(try simp only [N]);omega)
 have mY:=wA jZ;(try simp only [N] at mY);refine Ok.bind (Ok.idx ?_ ?_) (fun e6 FZ=>?_)
 iterate 2 (·(try simp only [N]);omega)
 have CX:=wA FZ;(try simp only [N] at CX);refine bW _ ?_ ?_
 iterate 2 (·(try have:=zA (a:=x3.2) (b:=1) (by omega) (by omega));(try simp only);omega)
theorem zbY {a0:List UInt8} {a1:List UInt8} (ha:a0.length≤1000000000) (hb:a1.length≤1000000000):Ok (UL.raw a0 a1) fun r=>True:=by
 (try simp only [N] at ha);(try simp only [N] at hb);have hL:=qA
 unfold UL.raw
 refine Ok.join (fun y1:Bool=>True) (fun y1 UV=>?_) (fun k2 NV=>?_)
 ·exact Ok.some' trivial
 refine Ok.condR (fun h1=>?_) (fun h1=>?_)
 ·exact NV _ trivial
 (try simp only [B] at h1);refine Ok.bind (zta ?_ ?_) (fun r3 YV=>?_)
 iterate 2 (·(try simp only [N]);omega)
 exact NV _ trivial
theorem ztQ {a0:List UInt8} {a1:Int} {a2:G.Frame} (ha:wt a0≤1000000000) (hb:wt a2≤1000000000):Ok (RT.raw a0 a1 a2) fun r=>r.1.length≤200:=by
 (try simp only [N] at ha);(try simp only [N] at hb);have hL:=qA
 unfold RT.raw
 refine Ok.bind (LJ ?_) (fun r1 MV=>?_)
 ·(try simp only [N]);omega
 (try simp only [N] at MV);refine Ok.join (fun y2:Bool=>True) (fun y2 WV=>?_) (fun k3 PV=>?_)
 ·refine Ok.cond' (fun h1=>?_) (fun h1=>?_)
  ·refine Ok.some' ?_;(try simp only [N]);omega
  refine Ok.bind (iT ?_) (fun r6 lW=>?_)
  ·(try simp only [N]);omega
  (try simp only [N] at lW);refine Ok.bind (zbV ?_ ?_) (fun r7 KW=>?_)
  iterate 2 (·(try simp only [N]);omega)
  (try simp only [N] at KW);refine Ok.some' ?_;(try simp only);omega
 refine Ok.cond' (fun h2=>?_) (fun h2=>?_)
 ·exact PV _ trivial
 (try simp only [B] at h2);refine Ok.cond' (fun h3=>?_) (fun h3=>?_)
 ·exact PV _ trivial
 (try simp only [B] at h3);refine Ok.bind (RO) (fun r4 SV=>?_);(try simp only [N] at SV);refine Ok.bind (zbY ?_ ?_) (fun r5 TV=>?_)
 iterate 2 (·(try simp only [N]);omega)
 exact PV _ trivial
theorem zbR {a0:G.Ep} {a1:Int} {a2:G.Frame} (ha:wt a0≤1000000000) (hb:wt a2≤1000000000):Ok (BL.raw a0 a1 a2) fun r=>wt r.1≤wt a0∧r.2.1.length≤200:=by
 (try simp only [N] at ha);(try simp only [N] at hb);have hL:=qA
 unfold BL.raw
 refine Ok.same (XA ?_) ?_
 ·(try simp only [N]);omega
 refine Ok.joinR (fun y2:Bool=>True) (fun k3 PV=>?_) (fun y2 WV=>?_)
 ·refine Ok.cond' (fun h1=>?_) (fun h1=>?_)
  ·exact PV _ trivial
  (try simp only [B] at h1);have f2:=WQ h1;(try simp only [N] at f2);refine Ok.bind (LJ ?_) (fun r4 SV=>?_)
  ·(try simp only [N]);omega
  (try simp only [N] at SV);refine Ok.cond' (fun h3=>?_) (fun h3=>?_)
  ·exact PV _ trivial
  exact PV _ trivial
 refine Ok.cond' (fun h4=>?_) (fun h4=>?_)
 ·refine Ok.some' ?_;(try simp only [N]);omega
 refine Ok.bind (zgv) (fun r5 TV=>?_);obtain ⟨TV,W6⟩:=TV;refine Ok.cond' (fun h5=>?_) (fun h5=>?_)
 ·(try simp only [B] at h5);refine Ok.some' ?_;(try simp only [N]);omega
 (try simp only [B] at h5);replace W6:=W6 h5;(try simp only [N] at W6);refine Ok.bind (ztQ ?_ ?_) (fun r6 lW=>?_)
 iterate 2 (·(try simp only [N]);omega)
 (try simp only [N] at lW);refine Ok.cond' (fun h6=>?_) (fun h6=>?_)
 ·(try simp only [B] at h6);refine Ok.some' ?_;(try simp only [N]);omega
 (try simp only [B] at h6);refine Ok.bind (zgu ?_) (fun r7 KW=>?_)
 ·(try simp only [N]);omega
 (try simp only [N] at KW);refine Ok.some' ?_;(try simp only [N]);omega
theorem zgc {a0:G.Chan} {a1:Int} {a2:G.Frame} (ha:wt a0≤1000000000) (hb:wt a2≤1000000000):Ok (rO.raw a0 a1 a2) fun r=>wt r.1≤wt a0+64∧r.2.1.length≤200:=by
 (try simp only [N] at ha);(try simp only [N] at hb);have hL:=qA
 unfold rO.raw
 refine Ok.same (XA ?_) ?_
 ·(try simp only [N]);omega
 refine Ok.joinR (fun y2:Bool=>True) (fun k3 PV=>?_) (fun y2 WV=>?_)
 ·refine Ok.bind (NG ?_) (fun r4 SV=>?_)
  ·(try simp only [N]);omega
  refine Ok.cond' (fun h1=>?_) (fun h1=>?_)
  ·exact PV _ trivial
  (try simp only [B] at h1);replace SV:=SV h1;(try simp only [N] at SV);refine Ok.cond' (fun h2=>?_) (fun h2=>?_)
  ·exact PV _ trivial
  (try simp only [B] at h2);refine Ok.cond' (fun h3=>?_) (fun h3=>?_)
  ·exact PV _ trivial
  exact PV _ trivial
 refine Ok.cond' (fun h4=>?_) (fun h4=>?_)
 ·refine Ok.some' ?_;(try simp only [N]);omega
 refine Ok.bind (kO ?_) (fun r5 TV=>?_)
 ·(try simp only [N]);omega
 (try simp only [N] at TV);refine Ok.cond' (fun h5=>?_) (fun h5=>?_)
 ·(try simp only [B] at h5);refine Ok.some' ?_;(try simp only [N]);omega
 (try simp only [B] at h5);refine Ok.cond' (fun h6=>?_) (fun h6=>?_)
 ·(try simp only [B] at h6);refine Ok.bind (zbR ?_ ?_) (fun r6 lW=>?_)
  iterate 2 (·(try have:=PA (a:=1) (b:=a0.Role) (by omega) (by omega));(try simp only [N]);omega)
  (try simp only [N] at lW);refine Ok.cond' (fun h7=>?_) (fun h7=>?_)
  ·(try simp only [B] at h7);refine Ok.some' ?_;(try simp only [N]);omega
  (try simp only [B] at h7);refine Ok.joinR (fun y7:Bool=>True) (fun k8 AX=>?_) (fun y7 BZ=>?_)
  ·refine Ok.condR (fun h8=>?_) (fun h8=>?_)
   ·exact AX _ trivial
   exact AX _ trivial
  refine Ok.join (fun y9:G.Chan=>wt y9≤wt a0+64) (fun y9 dY=>?_) (fun k10 XV=>?_)
  ·(try simp only [N] at dY);refine Ok.some' ?_;(try simp only [N]);omega
  refine Ok.condR (fun h9=>?_) (fun h9=>?_)
  ·refine XV _ ?_;(try simp only [N]);omega
  refine XV _ ?_;(try have:=zA (a:=a1) (b:=5) (by omega) (by omega));(try simp only [N]);omega
 (try simp only [B] at h6);refine Ok.joinR (fun y11:Bool=>True) (fun k12 wW=>?_) (fun y11 iX=>?_)
 ·refine Ok.condR (fun oW=>?_) (fun oW=>?_)
  ·exact wW _ trivial
  exact wW _ trivial
 refine Ok.cond' (fun gW=>?_) (fun gW=>?_)
 ·refine Ok.joinR (fun y13:Bool=>True) (fun k14 ZV=>?_) (fun y13 RW=>?_)
  ·refine Ok.condR (fun FW=>?_) (fun FW=>?_)
   ·exact ZV _ trivial
   exact ZV _ trivial
  refine Ok.cond' (fun UW=>?_) (fun UW=>?_)
  ·refine Ok.some' ?_;(try simp only [N]);omega
  refine Ok.bind (zbR ?_ ?_) (fun r15 tW=>?_)
  iterate 2 (·(try have:=PA (a:=1) (b:=a0.Role) (by omega) (by omega));(try simp only [N]);omega)
  (try simp only [N] at tW);refine Ok.cond' (fun mX=>?_) (fun mX=>?_)
  ·(try simp only [B] at mX);refine Ok.some' ?_;(try simp only [N]);omega
  (try simp only [B] at mX);refine Ok.some' ?_;(try simp only [N]);omega
 refine Ok.joinR (fun y16:Bool=>True) (fun k17 pW=>?_) (fun y16 XW=>?_)
 ·refine Ok.condR (fun yX=>?_) (fun yX=>?_)
  ·exact pW _ trivial
  exact pW _ trivial
 refine Ok.condR (fun PX=>?_) (fun PX=>?_)
 ·refine Ok.some' ?_;(try simp only [N]);omega
 refine Ok.bind (wO ?_) (fun r18 sX=>?_)
 ·(try have:=zA (a:=a0.Cur.N) (b:=1) (by omega) (by omega));(try simp only [N]);omega
 (try simp only [N] at sX);refine Ok.bind (zbR ?_ ?_) (fun r19 fX=>?_)
 iterate 2 (·(try have:=PA (a:=1) (b:=a0.Role) (by omega) (by omega));(try simp only [N]);omega)
 (try simp only [N] at fX);refine Ok.cond' (fun SX=>?_) (fun SX=>?_)
 ·(try simp only [B] at SX);refine Ok.some' ?_;(try simp only [N]);omega
 (try simp only [B] at SX);refine Ok.some' ?_;(try have:=zA (a:=a1) (b:=5) (by omega) (by omega));(try simp only [N]);omega
theorem zgk {a0:G.Chan} {a1:Int} (ha:wt a0≤1000000000):Ok (DO.raw a0 a1) fun r=>r.1.length≤wt a0:=by
 (try simp only [N] at ha);have hL:=qA
 unfold DO.raw
 refine Ok.bind (NG ?_) (fun r1 MV=>?_)
 ·(try simp only [N]);omega
 refine Ok.cond' (fun h1=>?_) (fun h1=>?_)
 ·(try simp only [B] at h1);refine Ok.some' ?_;(try simp only [N]);omega
 (try simp only [B] at h1);replace MV:=MV h1;(try simp only [N] at MV);refine Ok.joinR (fun y2:Bool=>True) (fun k3 PV=>?_) (fun y2 WV=>?_)
 ·refine Ok.condR (fun h2=>?_) (fun h2=>?_)
  ·exact PV _ trivial
  exact PV _ trivial
 refine Ok.cond' (fun h3=>?_) (fun h3=>?_)
 ·refine Ok.guard ?_ ?_
  ·(try simp only [N]);omega
  refine Ok.some' ?_;(try simp only [N]);omega
 refine Ok.cond' (fun h4=>?_) (fun h4=>?_)
 ·(try simp only [B] at h4);refine Ok.guard ?_ ?_
  ·(try simp only [N]);omega
  refine Ok.some' ?_;(try simp only [N]);omega
 (try simp only [B] at h4);refine Ok.joinR (fun y4:Bool=>True) (fun k5 EW=>?_) (fun y4 aY=>?_)
 ·refine Ok.condR (fun h5=>?_) (fun h5=>?_)
  ·exact EW _ trivial
  exact EW _ trivial
 refine Ok.condR (fun h6=>?_) (fun h6=>?_)
 ·refine Ok.some' ?_;(try simp only [N]);omega
 refine Ok.guard ?_ ?_
 ·(try simp only [N]);omega
 refine Ok.some' ?_;(try simp only [N]);omega
theorem ztn {a0:G.Chan} {a1:Int} {a2:List UInt8} (ha:wt a0≤1000000000) (hb:wt a2≤1000000000):Ok (jT.raw a0 a1 a2) fun r=>wt r.1≤wt a0+64:=by
 (try simp only [N] at ha);(try simp only [N] at hb);have hL:=qA
 unfold jT.raw
 refine Ok.same (XA ?_) ?_
 ·(try simp only [N]);omega
 refine Ok.join (fun y2:Bool=>True) (fun y2 WV=>?_) (fun k3 PV=>?_)
 ·refine Ok.cond' (fun h1=>?_) (fun h1=>?_)
  ·refine Ok.some' ?_;(try simp only [N]);omega
  refine Ok.condR (fun h2=>?_) (fun h2=>?_)
  ·(try simp only [B] at h2);refine Ok.cond' (fun h3=>?_) (fun h3=>?_)
   ·(try simp only [B] at h3);(try have:=PA (a:=a0.Cur.N) (b:=1) (by omega) (by omega));refine Ok.some' ?_;(try simp only [N]);omega
   (try simp only [B] at h3);(try have:=PA (a:=a0.Cur.N) (b:=1) (by omega) (by omega));refine Ok.some' ?_;(try simp only [N]);omega
  (try simp only [B] at h2);refine Ok.bind (ztP ?_) (fun r7 KW=>?_)
  ·(try simp only [N]);omega
  (try simp only [N] at KW);refine Ok.cond' (fun h4=>?_) (fun h4=>?_)
  ·(try simp only [B] at h4);refine Ok.some' ?_;(try simp only [N]);omega
  (try simp only [B] at h4);refine Ok.some' ?_;(try simp only [N]);omega
 refine Ok.bind (NG ?_) (fun r4 SV=>?_)
 ·(try simp only [N]);omega
 refine Ok.cond' (fun h5=>?_) (fun h5=>?_)
 ·exact PV _ trivial
 (try simp only [B] at h5);replace SV:=SV h5;(try simp only [N] at SV);refine Ok.cond' (fun h6=>?_) (fun h6=>?_)
 ·exact PV _ trivial
 (try simp only [B] at h6);refine Ok.cond' (fun h7=>?_) (fun h7=>?_)
 ·exact PV _ trivial
 (try simp only [B] at h7);refine Ok.bind (wT) (fun r5 TV=>?_);(try simp only [N] at TV);refine Ok.bind (kO ?_) (fun r6 lW=>?_)
 ·(try simp only [N]);omega
 (try simp only [N] at lW);exact PV _ trivial
theorem ztq {a0:G.Chan} (ha:wt a0≤1000000000):Ok (oT.raw a0) fun r=>wt r≤400:=by
 (try simp only [N] at ha);have hL:=qA
 unfold oT.raw
 refine Ok.bind (NG ?_) (fun r1 MV=>?_)
 ·(try simp only [N]);omega
 refine Ok.cond' (fun h1=>?_) (fun h1=>?_)
 ·(try simp only [B] at h1);refine Ok.some' ?_;(try simp only [N]);omega
 (try simp only [B] at h1);replace MV:=MV h1;(try simp only [N] at MV);refine Ok.joinR (fun y2:(List (List UInt8))=>wt y2≤200) (fun k3 PV=>?_) (fun y2 WV=>?_)
 ·refine Ok.condR (fun h2=>?_) (fun h2=>?_)
  ·(try simp only [B] at h2);refine PV _ ?_;(try simp only [N]);omega
  (try simp only [B] at h2);refine Ok.guard ?_ ?_
  ·(try simp only [N]);omega
  refine Ok.guard ?_ ?_
  ·(try simp only [N]);omega
  refine PV _ ?_;(try simp only [N]);omega
 (try simp only [N] at WV);refine Ok.guard ?_ ?_
 ·(try simp only [N]);omega
 refine Ok.guard ?_ ?_
 ·(try simp only [N]);omega
 refine Ok.join (fun y4:(List (List UInt8))=>wt y4≤400) (fun y4 aY=>?_) (fun k5 EW=>?_)
 ·(try simp only [N] at aY);refine Ok.some' ?_;(try simp only [N]);omega
 refine Ok.condR (fun h3=>?_) (fun h3=>?_)
 ·(try simp only [B] at h3);refine EW _ ?_;(try simp only [N]);omega
 (try simp only [B] at h3);refine Ok.guard ?_ ?_
 ·(try simp only [N]);omega
 refine Ok.guard ?_ ?_
 ·(try simp only [N]);omega
 refine EW _ ?_;(try simp only [N]);omega
theorem zgo {a0:G.Paths} {a1:Int} (ha:wt a0≤1000000000):Ok (HO.raw a0 a1) fun r=>wt r≤wt a0+1600:=by
 (try simp only [N] at ha);have hL:=qA;have hw:=CB a0.Cands;(try simp only [N] at hw)
 unfold HO.raw
 refine Ok.joinR (fun y1:Bool=>y1=false→wt a0≤39∧a0.Cands.length≤3) (fun k2 NV=>?_) (fun y1 UV=>?_)
 ·refine Ok.cond' (fun h1=>?_) (fun h1=>?_)
  ·exact NV _ fun h=>nomatch h
  (try simp only [B] at h1);have f2:=pS h1;(try simp only [N] at f2);refine NV _ fun q3=>?_;(try simp only [B] at q3);(try simp only [N]);omega
 refine Ok.cond' (fun h4=>?_) (fun h4=>?_)
 ·refine Ok.same (XA ?_) ?_
  ·(try simp only [N]);omega
  refine Ok.some' ?_;(try simp only [N]);omega
 replace UV:=UV h4;(try simp only [N] at UV);refine Ok.join (fun y4:G.Paths=>wt y4≤1600) (fun y4 aY=>?_) (fun k5 EW=>?_)
 ·(try simp only [N] at aY);refine Ok.some' ?_;(try simp only [N]);omega
 refine Ok.loopR (fun x6:Int × G.Paths=>0≤x6.1∧x6.1≤(a0.Cands.length:Int)∧wt x6.2≤40 *x6.1) (fun x6=>((a0.Cands.length:Int) - x6.1).toNat) ?_ ?_ (fun x6 S4 k7 fW=>?_)
 iterate 2 (·(try simp only [N]);omega)
 (try simp only [N] at S4);refine Ok.condR (fun h5=>?_) (fun h5=>?_)
 ·(try simp only [B] at h5);refine EW _ ?_;(try simp only [N]);omega
 (try simp only [B] at h5);refine Ok.bind (Ok.idx ?_ ?_) (fun e8 P8=>?_)
 iterate 2 (·(try simp only [N]);omega)
 have U2:=wA P8;(try simp only [N] at U2);refine Ok.join (fun y9:G.Paths=>wt y9≤40 *x6.1+40) (fun y9 dY=>?_) (fun k10 XV=>?_)
 ·(try simp only [N] at dY);refine fW _ ?_ ?_
  iterate 2 (·(try have:=zA (a:=x6.1) (b:=1) (by omega) (by omega));(try simp only [N]);omega)
 refine Ok.condR (fun h6=>?_) (fun h6=>?_)
 ·(try simp only [B] at h6);refine XV _ ?_;(try simp only [N]);omega
 (try simp only [B] at h6);refine Ok.bind (Ok.idx ?_ ?_) (fun e11 P5=>?_)
 iterate 2 (·(try simp only [N]);omega)
 have T1:=wA P5;(try simp only [N] at T1);refine Ok.same (XA ?_) ?_
 ·(try simp only [N]);omega
 refine Ok.guard ?_ ?_
 ·(try simp only [N]);omega
 refine XV _ ?_;(try simp only [N]);omega
theorem zgn {a0:G.Paths} {a1:Int} {a2:G.Addr} {a3:List UInt8} (ha:wt a0≤1000000000) (hb:wt a3≤1000000000):Ok (GO.raw a0 a1 a2 a3) fun r=>wt r.1≤wt a0+1700:=by
 (try simp only [N] at ha);(try simp only [N] at hb);have hL:=qA
 unfold GO.raw
 refine Ok.joinR (fun y1:Bool=>y1=false→a3.length=12) (fun k2 NV=>?_) (fun y1 UV=>?_)
 ·refine Ok.cond' (fun h1=>?_) (fun h1=>?_)
  ·exact NV _ fun h=>nomatch h
  (try simp only [B] at h1);have f2:=pS h1;(try simp only [N] at f2);refine Ok.cond' (fun h3=>?_) (fun h3=>?_)
  ·exact NV _ fun h=>nomatch h
  (try simp only [B] at h3);refine Ok.cond' (fun h4=>?_) (fun h4=>?_)
  ·exact NV _ fun h=>nomatch h
  (try simp only [B] at h4);have f5:=XH h4;(try simp only [N] at f5);refine Ok.cond' (fun h6=>?_) (fun h6=>?_)
  ·exact NV _ fun h=>nomatch h
  (try simp only [B] at h6);refine NV _ fun q7=>?_;(try simp only [B] at q7);(try simp only [N]);omega
 refine Ok.cond' (fun h8=>?_) (fun h8=>?_)
 ·refine Ok.same (XA ?_) ?_
  ·(try simp only [N]);omega
  refine Ok.some' ?_;(try simp only [N]);omega
 replace UV:=UV h8;(try simp only [N] at UV);refine Ok.bind (zgo ?_) (fun r5 TV=>?_)
 ·(try simp only [N]);omega
 (try simp only [N] at TV);have hw:=CB r5.Cands;(try simp only [N] at hw);refine Ok.join (fun y6:G.Paths=>True) (fun y6 WW=>?_) (fun k7 fW=>?_)
 ·refine Ok.cond' (fun h9=>?_) (fun h9=>?_)
  ·(try simp only [B] at h9);refine Ok.same (XA ?_) ?_
   ·(try simp only [N]);omega
   refine Ok.some' ?_;(try simp only [N]);omega
  (try simp only [B] at h9);refine Ok.guard ?_ ?_
  ·(try simp only [N]);omega
  refine Ok.guard ?_ ?_
  ·(try have:=zA (a:=a1) (b:=6) (by omega) (by omega));(try simp only [N]);omega
  refine Ok.some' ?_;(try have:=zA (a:=a1) (b:=6) (by omega) (by omega));(try simp only [N]);omega
 refine Ok.loopR (fun x8:Int × G.Paths=>0≤x8.1∧x8.1≤(r5.Cands.length:Int)) (fun x8=>((r5.Cands.length:Int) - x8.1).toNat) ?_ ?_ (fun x8 P3 k9 LX=>?_)
 iterate 2 (·(try simp only);omega)
 (try simp only [N] at P3);refine Ok.condR (fun oW=>?_) (fun oW=>?_)
 ·exact fW _ trivial
 (try simp only [B] at oW);refine Ok.chk ?_ ?_
 ·(try simp only [B]);omega
 refine Ok.bind (Ok.get ?_) (fun e10 BX=>?_)
 ·(try simp only [N]);omega
 have NW:=wA BX;(try simp only [N] at NW);refine Ok.condR (fun gW=>?_) (fun gW=>?_)
 ·(try simp only [B] at gW);refine LX _ ?_ ?_
  iterate 2 (·(try have:=zA (a:=x8.1) (b:=1) (by omega) (by omega));(try simp only);omega)
 (try simp only [B] at gW);refine Ok.same (XA ?_) ?_
 ·(try simp only [N]);omega
 refine Ok.some' ?_;(try simp only [N]);omega
theorem zsW {a0:G.Paths} {a1:Int} {a2:G.Addr} {a3:List UInt8} (ha:wt a0≤1000000000) (hb:wt a3≤1000000000):Ok (MS.raw a0 a1 a2 a3) fun r=>wt r.1≤wt a0+1600:=by
 (try simp only [N] at ha);(try simp only [N] at hb);have hL:=qA;have hw:=CB a0.Cands;(try simp only [N] at hw)
 unfold MS.raw
 refine Ok.bind (zj3 ?_) (fun r1 MV=>?_)
 ·(try simp only [N]);omega
 obtain ⟨MV,UZ⟩:=MV;(try simp only [N] at MV);refine Ok.joinR (fun y2:Bool=>y2=false→wt a0≤39∧a0.Cands.length≤3) (fun k3 PV=>?_) (fun y2 WV=>?_)
 ·refine Ok.cond' (fun h1=>?_) (fun h1=>?_)
  ·exact PV _ fun h=>nomatch h
  (try simp only [B] at h1);replace UZ:=UZ h1;(try simp only [N] at UZ);refine Ok.cond' (fun h2=>?_) (fun h2=>?_)
  ·exact PV _ fun h=>nomatch h
  (try simp only [B] at h2);refine Ok.bind (kO ?_) (fun r4 SV=>?_)
  ·(try simp only [N]);omega
  (try simp only [N] at SV);refine Ok.cond' (fun h3=>?_) (fun h3=>?_)
  ·exact PV _ fun h=>nomatch h
  (try simp only [B] at h3);refine PV _ fun q4=>?_;(try simp only [B] at q4);(try simp only [N]);omega
 refine Ok.cond' (fun h5=>?_) (fun h5=>?_)
 ·refine Ok.same (XA ?_) ?_
  ·(try simp only [N]);omega
  refine Ok.some' ?_;(try simp only [N]);omega
 replace WV:=WV h5;(try simp only [N] at WV);refine Ok.join (fun y6:G.Paths=>wt y6≤1600) (fun y6 WW=>?_) (fun k7 fW=>?_)
 ·(try simp only [N] at WW);refine Ok.some' ?_;(try simp only [N]);omega
 refine Ok.loopR (fun x8:Int × G.Paths=>0≤x8.1∧x8.1≤(a0.Cands.length:Int)∧wt x8.2≤40 *x8.1) (fun x8=>((a0.Cands.length:Int) - x8.1).toNat) ?_ ?_ (fun x8 P3 k9 LX=>?_)
 iterate 2 (·(try simp only [N]);omega)
 (try simp only [N] at P3);refine Ok.condR (fun h6=>?_) (fun h6=>?_)
 ·(try simp only [B] at h6);refine fW _ ?_;(try simp only [N]);omega
 (try simp only [B] at h6);refine Ok.bind (Ok.idx ?_ ?_) (fun e10 BX=>?_)
 iterate 2 (·(try simp only [N]);omega)
 have NW:=wA BX;(try simp only [N] at NW);refine Ok.join (fun y12:G.Paths=>wt y12≤40 *x8.1+40) (fun y12 OX=>?_) (fun k13 GW=>?_)
 ·(try simp only [N] at OX);refine LX _ ?_ ?_
  iterate 2 (·(try have:=zA (a:=x8.1) (b:=1) (by omega) (by omega));(try simp only [N]);omega)
 refine Ok.condR (fun h7=>?_) (fun h7=>?_)
 ·(try simp only [B] at h7);refine GW _ ?_;(try simp only [N]);omega
 (try simp only [B] at h7);refine Ok.bind (Ok.idx ?_ ?_) (fun e14 JZ=>?_)
 iterate 2 (·(try simp only [N]);omega)
 have jY:=wA JZ;(try simp only [N] at jY);refine Ok.same (XA ?_) ?_
 ·(try simp only [N]);omega
 refine Ok.guard ?_ ?_
 ·(try simp only [N]);omega
 refine GW _ ?_;(try simp only [N]);omega
theorem zgi {a0:List G.Credit} {a1:G.Addr} {a2:Int} (ha:wt a0≤1000000000):Ok (AO.raw a0 a1 a2) fun r=>wt r≤wt a0+1:=by
 (try simp only [N] at ha);have hL:=qA;have hc:=zas a0 a1;(try simp only [N] at hc);have hw:=CB a0;(try simp only [N] at hw)
 unfold AO.raw
 refine Ok.guard ?_ ?_
 ·(try simp only [N]);omega
 refine Ok.joinR (fun y1:Bool=>True) (fun k2 NV=>?_) (fun y1 UV=>?_)
 ·refine Ok.cond' (fun h1=>?_) (fun h1=>?_)
  ·exact NV _ trivial
  (try simp only [B] at h1);have f2:=oQ h1;(try simp only [N] at f2);refine Ok.cond' (fun h3=>?_) (fun h3=>?_)
  ·exact NV _ trivial
  exact NV _ trivial
 refine Ok.cond' (fun h4=>?_) (fun h4=>?_)
 ·refine Ok.some' ?_;(try simp only [N]);omega
 refine Ok.cond' (fun h5=>?_) (fun h5=>?_)
 ·(try simp only [B] at h5);refine Ok.cond' (fun h6=>?_) (fun h6=>?_)
  ·(try simp only [B] at h6);refine Ok.some' ?_;(try simp only [N]);omega
  (try simp only [B] at h6);refine Ok.guard ?_ ?_
  ·(try simp only [N]);omega
  refine Ok.some' ?_;(try simp only [N]);omega
 (try simp only [B] at h5);refine Ok.chk ?_ ?_
 ·(try simp only [B,N]);omega
 refine Ok.bind (Ok.get ?_) (fun e3 he3=>?_)
 ·(try simp only [N]);omega
 have X5:=wA he3;(try simp only [N] at X5);refine Ok.chk ?_ ?_
 ·(try simp only [B,N]);omega
 refine Ok.bind (Ok.get ?_) (fun e4 U0=>?_)
 ·(try simp only [N]);omega
 have LZ:=wA U0;(try simp only [N] at LZ);refine Ok.chk ?_ ?_
 ·(try have:=zA (a:=e3.Got) (b:=a2) (by omega) (by omega));have:=EB ([]++a0) ((BB a0 a1).toNat) (⟨e4.A,cA .i64 e3.Got a2,e4.Sent⟩:G.Credit);(try simp only [N] at this);(try simp only [B,N]);omega
 refine Ok.bind (Ok.get ?_) (fun e6 FZ=>?_)
 ·(try simp only [N]);omega
 have CX:=wA FZ;(try simp only [N] at CX);refine Ok.join (fun y7:(List G.Credit)=>wt y7≤wt a0+1) (fun y7 BZ=>?_) (fun k8 AX=>?_)
 ·(try simp only [N] at BZ);refine Ok.some' ?_;(try simp only [N]);omega
 refine Ok.condR (fun h7=>?_) (fun h7=>?_)
 ·(try simp only [B] at h7);refine AX _ ?_;(try have:=zA (a:=e3.Got) (b:=a2) (by omega) (by omega));have:=EB ([]++a0) ((BB a0 a1).toNat) (⟨e4.A,cA .i64 e3.Got a2,e4.Sent⟩:G.Credit);(try simp only [N] at this);(try simp only [N]);omega
 (try simp only [B] at h7);refine Ok.chk ?_ ?_
 ·(try have:=zA (a:=e3.Got) (b:=a2) (by omega) (by omega));have:=EB ([]++a0) ((BB a0 a1).toNat) (⟨e4.A,cA .i64 e3.Got a2,e4.Sent⟩:G.Credit);(try simp only [N] at this);(try simp only [B,N]);omega
 refine Ok.bind (Ok.get ?_) (fun e9 MZ=>?_)
 ·(try simp only [N]);omega
 have UX:=wA MZ;(try simp only [N] at UX);refine AX _ ?_;(try have:=zA (a:=e3.Got) (b:=a2) (by omega) (by omega));have:=EB (List.set ([]++a0) ((BB a0 a1).toNat) (⟨e4.A,cA .i64 e3.Got a2,e4.Sent⟩:G.Credit):List G.Credit) ((BB a0 a1).toNat) (⟨e9.A,1000000,e9.Sent⟩:G.Credit);(try simp only [N] at this)
 have:=EB ([]++a0) ((BB a0 a1).toNat) (⟨e4.A,cA .i64 e3.Got a2,e4.Sent⟩:G.Credit);(try simp only [N] at this);(try simp only [N]);omega
theorem zgr {a0:List G.Credit} {a1:G.Addr}:Ok (MO.raw a0 a1) fun r=>True:=by
 have hL:=qA;have hc:=zas a0 a1;(try simp only [N] at hc);have hw:=CB a0;(try simp only [N] at hw)
 unfold MO.raw
 refine Ok.joinR (fun y1:Bool=>y1=false→0≤BB a0 a1) (fun k2 NV=>?_) (fun y1 UV=>?_)
 ·refine Ok.cond' (fun h1=>?_) (fun h1=>?_)
  ·exact NV _ fun h=>nomatch h
  (try simp only [B] at h1);have f2:=oQ h1;(try simp only [N] at f2);refine NV _ fun q3=>?_;(try simp only [B] at q3);(try simp only [N]);omega
 refine Ok.cond' (fun h4=>?_) (fun h4=>?_)
 ·exact Ok.some' trivial
 replace UV:=UV h4;(try simp only [N] at UV);refine Ok.bind (Ok.idx ?_ ?_) (fun e3 he3=>?_)
 iterate 2 (·(try simp only [N]);omega)
 have X5:=wA he3;(try simp only [N] at X5);refine Ok.bind (Ok.idx ?_ ?_) (fun e4 U0=>?_)
 iterate 2 (·(try simp only [N]);omega)
 have LZ:=wA U0;(try simp only [N] at LZ);exact Ok.some' trivial
theorem zgt {a0:List G.Credit} {a1:G.Addr} {a2:Int} (ha:wt a0≤1000000000):Ok (PO.raw a0 a1 a2) fun r=>wt r.1≤wt a0:=by
 (try simp only [N] at ha);have hL:=qA;have hc:=zas a0 a1;(try simp only [N] at hc);have hw:=CB a0;(try simp only [N] at hw)
 unfold PO.raw
 refine Ok.guard ?_ ?_
 ·(try simp only [N]);omega
 refine Ok.joinR (fun y1:Bool=>y1=false→0≤BB a0 a1) (fun k2 NV=>?_) (fun y1 UV=>?_)
 ·refine Ok.cond' (fun h1=>?_) (fun h1=>?_)
  ·exact NV _ fun h=>nomatch h
  (try simp only [B] at h1);refine Ok.cond' (fun h2=>?_) (fun h2=>?_)
  ·exact NV _ fun h=>nomatch h
  (try simp only [B] at h2);have f3:=oQ h2;(try simp only [N] at f3);refine Ok.bind (zgr) (fun r3 YV=>?_);refine NV _ fun q4=>?_;(try simp only [B] at q4);(try simp only [N]);omega
 refine Ok.cond' (fun h5=>?_) (fun h5=>?_)
 ·refine Ok.some' ?_;(try simp only [N]);omega
 replace UV:=UV h5;(try simp only [N] at UV);refine Ok.chk ?_ ?_
 ·(try simp only [B,N]);omega
 refine Ok.bind (Ok.get ?_) (fun e4 U0=>?_)
 ·(try simp only [N]);omega
 have LZ:=wA U0;(try simp only [N] at LZ);refine Ok.chk ?_ ?_
 ·(try simp only [B,N]);omega
 refine Ok.bind (Ok.get ?_) (fun e5 jZ=>?_)
 ·(try simp only [N]);omega
 have mY:=wA jZ;(try simp only [N] at mY);refine Ok.some' ?_;(try have:=zA (a:=e4.Sent) (b:=a2) (by omega) (by omega));have:=EB ([]++a0) ((BB a0 a1).toNat) (⟨e5.A,e5.Got,cA .i64 e4.Sent a2⟩:G.Credit);(try simp only [N] at this);(try simp only);omega
theorem zgb {a0:G.Tab} {a1:G.Addr} (ha:wt a0≤1000000000):Ok (qO.raw a0 a1) fun r=>True:=by
 (try simp only [N] at ha);have hL:=qA;have hw:=CB a0.L;(try simp only [N] at hw)
 unfold qO.raw
 refine Ok.join (fun y1:Unit=>True) (fun y1 UV=>?_) (fun k2 NV=>?_)
 ·exact Ok.some' trivial
 refine Ok.loopR (fun x3:Int=>0≤x3∧x3≤(a0.L.length:Int)) (fun x3=>((a0.L.length:Int) - x3).toNat) ?_ ?_ (fun x3 XY k4 bW=>?_)
 iterate 2 (·(try simp only [N]);omega)
 (try simp only [N] at XY);refine Ok.condR (fun h1=>?_) (fun h1=>?_)
 ·exact NV _ trivial
 (try simp only [B] at h1);refine Ok.join (fun y5:Bool=>True) (fun y5 AZ=>?_) (fun k6 kX=>?_)
 ·refine Ok.cond' (fun h2=>?_) (fun h2=>?_)
  ·exact Ok.some' trivial
  refine bW _ ?_ ?_
  iterate 2 (·(try have:=zA (a:=x3) (b:=1) (by omega) (by omega));(try simp only [N]);omega)
 refine Ok.bind (Ok.idx ?_ ?_) (fun e7 H0=>?_)
 iterate 2 (·(try simp only [N]);omega)
 have TX:=wA H0;(try simp only [N] at TX);refine Ok.condR (fun h3=>?_) (fun h3=>?_)
 ·exact kX _ trivial
 (try simp only [B] at h3);refine Ok.bind (Ok.idx ?_ ?_) (fun e8 P8=>?_)
 iterate 2 (·(try simp only [N]);omega)
 have U2:=wA P8;(try simp only [N] at U2);exact kX _ trivial
theorem zgl {a0:G.Server} {a1:G.Addr} {a2:Int} (ha:wt a0≤1000000000):Ok (EO.raw a0 a1 a2) fun r=>True:=by
 (try simp only [N] at ha);have hL:=qA
 unfold EO.raw
 refine Ok.join (fun y1:Bool=>True) (fun y1 UV=>?_) (fun k2 NV=>?_)
 ·exact Ok.some' trivial
 refine Ok.bind (zgb ?_) (fun r3 YV=>?_)
 ·(try simp only [N]);omega
 refine Ok.cond' (fun h1=>?_) (fun h1=>?_)
 ·exact NV _ trivial
 (try simp only [B] at h1);refine Ok.bind (zgr) (fun r4 SV=>?_);exact NV _ trivial
theorem ztu {a0:List UInt8} {a1:G.Addr} (ha:wt a0≤1000000000):Ok (uT.raw a0 a1) fun r=>r.length≤a0.length+12:=by
 (try simp only [N] at ha);have hL:=qA
 unfold uT.raw
 refine Ok.condR (fun h1=>?_) (fun h1=>?_)
 ·(try simp only [B] at h1);have f2:=XH h1;(try simp only [N] at f2);refine Ok.bind (ZE ?_) (fun r1 MV=>?_)
  ·(try simp only [N]);omega
  (try simp only [N] at MV);refine Ok.bind (ZE ?_) (fun r2 VV=>?_)
  ·(try simp only [N]);omega
  (try simp only [N] at VV);refine Ok.some' ?_;(try simp only [N]);omega
 (try simp only [B] at h1);refine Ok.guard ?_ ?_
 ·(try simp only [N]);omega
 refine Ok.some' ?_;(try simp only [N]);omega
theorem zbU {a0:G.Addr} {a1:Int} {a2:List UInt8} {a3:List UInt8} {a4:Int} (ha:wt a2≤1000000000) (hb:wt a3≤1000000000):Ok (KL.raw a0 a1 a2 a3 a4) fun r=>r.length≤60:=by
 (try simp only [N] at ha);(try simp only [N] at hb);have hL:=qA
 unfold KL.raw
 refine Ok.joinR (fun y1:Bool=>y1=false→a2.length=12∧a3.length=12) (fun k2 NV=>?_) (fun y1 UV=>?_)
 ·refine Ok.cond' (fun h1=>?_) (fun h1=>?_)
  ·exact NV _ fun h=>nomatch h
  (try simp only [B] at h1);have f2:=XH h1;(try simp only [N] at f2);refine Ok.cond' (fun h3=>?_) (fun h3=>?_)
  ·exact NV _ fun h=>nomatch h
  (try simp only [B] at h3);refine Ok.cond' (fun h4=>?_) (fun h4=>?_)
  ·exact NV _ fun h=>nomatch h
  (try simp only [B] at h4);refine Ok.cond' (fun h5=>?_) (fun h5=>?_)
  ·exact NV _ fun h=>nomatch h
  (try simp only [B] at h5);refine NV _ fun q6=>?_;(try simp only [B] at q6);(try simp only [N]);omega
 refine Ok.cond' (fun h7=>?_) (fun h7=>?_)
 ·refine Ok.some' ?_;(try simp only [N]);omega
 replace UV:=UV h7;(try simp only [N] at UV);refine Ok.bind (ztu ?_) (fun r3 YV=>?_)
 ·(try simp only [N]);omega
 (try simp only [N] at YV);refine Ok.guard ?_ ?_
 ·(try simp only [N]);omega
 refine Ok.guard ?_ ?_
 ·(try simp only [N]);omega
 refine Ok.guard ?_ ?_
 ·(try simp only [N]);omega
 refine Ok.bind (ZE ?_) (fun r5 TV=>?_)
 ·(try simp only [N]);omega
 (try simp only [N] at TV);refine Ok.some' ?_;(try simp only [N]);omega
theorem zgm {a0:G.Jar} {a1:G.Addr} {a2:Int} {a3:List UInt8} {a4:List UInt8} {a5:Int} (ha:wt a3≤1000000000) (hb:wt a4≤1000000000):Ok (FO.raw a0 a1 a2 a3 a4 a5) fun r=>r.length≤16:=by
 (try simp only [N] at ha);(try simp only [N] at hb);have hL:=qA
 unfold FO.raw
 refine Ok.bind (zbU ?_ ?_) (fun r1 MV=>?_)
 iterate 2 (·(try simp only [N]);omega)
 (try simp only [N] at MV);refine Ok.joinR (fun y2:Bool=>True) (fun k3 PV=>?_) (fun y2 WV=>?_)
 ·refine Ok.cond' (fun h1=>?_) (fun h1=>?_)
  ·exact PV _ trivial
  exact PV _ trivial
 refine Ok.cond' (fun h2=>?_) (fun h2=>?_)
 ·refine Ok.some' ?_;(try simp only [N]);omega
 refine Ok.bind (RO) (fun r4 SV=>?_);(try simp only [N] at SV);refine Ok.some' ?_;(try simp only [N]);omega
theorem ztk {a0:Int} {a1:Int}:Ok (fT.raw a0 a1) fun r=>True:=by
 have hL:=qA
 unfold fT.raw
 refine Ok.join (fun y1:Bool=>True) (fun y1 UV=>?_) (fun k2 NV=>?_)
 ·exact Ok.some' trivial
 refine Ok.condR (fun h1=>?_) (fun h1=>?_)
 ·exact NV _ trivial
 (try simp only [B] at h1);refine Ok.condR (fun h2=>?_) (fun h2=>?_)
 ·exact NV _ trivial
 exact NV _ trivial
theorem ztp {a0:G.Jar} {a1:Int} {a2:G.Addr} {a3:G.Frame} (ha:wt a3≤1000000000):Ok (nT.raw a0 a1 a2 a3) fun r=>r=0→a3.Kind=3∧1≤a3.Id∧a3.Id≤9:=by
 (try simp only [N] at ha);have hL:=qA
 unfold nT.raw
 refine Ok.joinR (fun y1:Bool=>y1=false→a3.Kind=3∧1≤a3.Id∧a3.Id≤9) (fun k2 NV=>?_) (fun y1 UV=>?_)
 ·refine Ok.cond' (fun h1=>?_) (fun h1=>?_)
  ·exact NV _ fun h=>nomatch h
  (try simp only [B] at h1);have f2:=zfa h1;(try simp only [N] at f2);refine Ok.cond' (fun h3=>?_) (fun h3=>?_)
  ·exact NV _ fun h=>nomatch h
  (try simp only [B] at h3);refine Ok.cond' (fun h4=>?_) (fun h4=>?_)
  ·exact NV _ fun h=>nomatch h
  (try simp only [B] at h4);have f5:=XH h4;(try simp only [N] at f5);refine Ok.cond' (fun h6=>?_) (fun h6=>?_)
  ·exact NV _ fun h=>nomatch h
  (try simp only [B] at h6);have f7:=mI h6;(try simp only [N] at f7);refine NV _ fun q8=>?_;(try simp only [B] at q8);(try simp only [N]);omega
 refine Ok.cond' (fun h9=>?_) (fun h9=>?_)
 ·refine Ok.some' ?_;(try simp only [N]);omega
 replace UV:=UV h9;(try simp only [N] at UV);refine Ok.bind (ztk) (fun r3 YV=>?_);refine Ok.cond' (fun oW=>?_) (fun oW=>?_)
 ·(try simp only [B] at oW);refine Ok.some' ?_;(try simp only [N]);omega
 (try simp only [B] at oW);refine Ok.bind (zgm ?_ ?_) (fun r4 SV=>?_)
 iterate 2 (·(try simp only [N]);omega)
 (try simp only [N] at SV);refine Ok.bind (zbY ?_ ?_) (fun r5 TV=>?_)
 iterate 2 (·(try simp only [N]);omega)
 refine Ok.cond' (fun gW=>?_) (fun gW=>?_)
 ·(try simp only [B] at gW);refine Ok.some' ?_;(try simp only [N]);omega
 (try simp only [B] at gW);refine Ok.some' ?_;(try simp only);omega
theorem zgg {a0:List UInt8} {a1:List UInt8}:Ok (yO.raw a0 a1) fun r=>r.length≤32:=by
 have hL:=qA;have hm:=rR a0 a1;(try simp only [N] at hm)
 unfold yO.raw
 refine Ok.some' ?_;(try simp only [N]);omega
theorem zbS {a0:List UInt8}:Ok (EL.raw a0) fun r=>r.length≤32:=by
 have hL:=qA
 unfold EL.raw
 refine Ok.cond' (fun h1=>?_) (fun h1=>?_)
 ·(try simp only [B] at h1);refine Ok.some' ?_;(try simp only [N]);omega
 (try simp only [B] at h1);have f2:=fO h1;(try simp only [N] at f2);refine Ok.bind (zgg) (fun r2 VV=>?_);(try simp only [N] at VV);refine Ok.bind (jI ?_) (fun r3 YV=>?_)
 ·(try simp only [N]);omega
 (try simp only [N] at YV);refine Ok.some' ?_;(try simp only [N]);omega
theorem zbW {a0:Int} {a1:List UInt8} {a2:List UInt8} {a3:Int} {a4:List UInt8} (ha:wt a1≤1000000000) (hb:wt a2≤1000000000) (hc:wt a4≤1000000000):Ok (QL.raw a0 a1 a2 a3 a4) fun r=>r.length≤60:=by
 (try simp only [N] at ha);(try simp only [N] at hb);(try simp only [N] at hc);have hL:=qA
 unfold QL.raw
 refine Ok.joinR (fun y1:Bool=>y1=false→a1.length=12∧a2.length=12∧a4.length=16) (fun k2 NV=>?_) (fun y1 UV=>?_)
 ·refine Ok.cond' (fun h1=>?_) (fun h1=>?_)
  ·exact NV _ fun h=>nomatch h
  (try simp only [B] at h1);refine Ok.cond' (fun h2=>?_) (fun h2=>?_)
  ·exact NV _ fun h=>nomatch h
  (try simp only [B] at h2);refine Ok.cond' (fun h3=>?_) (fun h3=>?_)
  ·exact NV _ fun h=>nomatch h
  (try simp only [B] at h3);refine Ok.cond' (fun h4=>?_) (fun h4=>?_)
  ·exact NV _ fun h=>nomatch h
  (try simp only [B] at h4);refine NV _ fun q5=>?_;(try simp only [B] at q5);(try simp only [N]);omega
 refine Ok.cond' (fun h6=>?_) (fun h6=>?_)
 ·refine Ok.some' ?_;(try simp only [N]);omega
 replace UV:=UV h6;(try simp only [N] at UV);refine Ok.guard ?_ ?_
 ·(try simp only [N]);omega
 refine Ok.guard ?_ ?_
 ·(try simp only [N]);omega
 refine Ok.bind (ZE ?_) (fun r4 SV=>?_)
 ·(try simp only [N]);omega
 (try simp only [N] at SV);refine Ok.guard ?_ ?_
 ·(try simp only [N]);omega
 refine Ok.some' ?_;(try simp only [N]);omega
theorem zgq {a0:List UInt8} {a1:Int} {a2:List UInt8} {a3:List UInt8} {a4:Int} {a5:List UInt8} (ha:wt a2≤1000000000) (hb:wt a3≤1000000000) (hc:wt a5≤1000000000):Ok (KO.raw a0 a1 a2 a3 a4 a5) fun r=>r.length≤16:=by
 (try simp only [N] at ha);(try simp only [N] at hb);(try simp only [N] at hc);have hL:=qA
 unfold KO.raw
 refine Ok.bind (zbS) (fun r1 MV=>?_);(try simp only [N] at MV);refine Ok.bind (zbW ?_ ?_ ?_) (fun r2 VV=>?_)
 iterate 3 (·(try simp only [N]);omega)
 (try simp only [N] at VV);refine Ok.joinR (fun y3:Bool=>True) (fun k4 bW=>?_) (fun y3 cX=>?_)
 ·refine Ok.cond' (fun h1=>?_) (fun h1=>?_)
  ·exact bW _ trivial
  exact bW _ trivial
 refine Ok.cond' (fun h2=>?_) (fun h2=>?_)
 ·refine Ok.some' ?_;(try simp only [N]);omega
 refine Ok.bind (RO) (fun r5 TV=>?_);(try simp only [N] at TV);refine Ok.some' ?_;(try simp only [N]);omega
theorem ztt {a0:List UInt8} {a1:G.Frame} (ha:wt a1≤1000000000):Ok (sT.raw a0 a1) fun r=>True:=by
 (try simp only [N] at ha);have hL:=qA
 unfold sT.raw
 refine Ok.join (fun y1:Bool=>True) (fun y1 UV=>?_) (fun k2 NV=>?_)
 ·exact Ok.some' trivial
 refine Ok.condR (fun h1=>?_) (fun h1=>?_)
 ·exact NV _ trivial
 (try simp only [B] at h1);have f2:=mI h1;(try simp only [N] at f2);refine Ok.condR (fun h3=>?_) (fun h3=>?_)
 ·exact NV _ trivial
 (try simp only [B] at h3);refine Ok.bind (zgq ?_ ?_ ?_) (fun r3 YV=>?_)
 iterate 3 (·(try simp only [N]);omega)
 (try simp only [N] at YV);refine Ok.bind (zbY ?_ ?_) (fun r4 SV=>?_)
 iterate 2 (·(try simp only [N]);omega)
 exact NV _ trivial
theorem ztw {a0:List UInt8} {a1:List UInt8} {a2:List UInt8} (ha:wt a1≤1000000000) (hb:wt a2≤1000000000):Ok (yT.raw a0 a1 a2) fun r=>r.length≤32:=by
 (try simp only [N] at ha);(try simp only [N] at hb);have hL:=qA
 unfold yT.raw
 refine Ok.joinR (fun y1:Bool=>y1=false→a1.length=12∧a2.length=12) (fun k2 NV=>?_) (fun y1 UV=>?_)
 ·refine Ok.cond' (fun h1=>?_) (fun h1=>?_)
  ·exact NV _ fun h=>nomatch h
  (try simp only [B] at h1);have f2:=fO h1;(try simp only [N] at f2);refine Ok.cond' (fun h3=>?_) (fun h3=>?_)
  ·exact NV _ fun h=>nomatch h
  (try simp only [B] at h3);refine NV _ fun q4=>?_;(try simp only [B] at q4);(try simp only [N]);omega
 refine Ok.cond' (fun h5=>?_) (fun h5=>?_)
 ·refine Ok.some' ?_;(try simp only [N]);omega
 replace UV:=UV h5;(try simp only [N] at UV);refine Ok.guard ?_ ?_
 ·(try simp only [N]);omega
 refine Ok.guard ?_ ?_
 ·(try simp only [N]);omega
 refine Ok.bind (zgg) (fun r3 YV=>?_);(try simp only [N] at YV);refine Ok.some' ?_;(try simp only [N]);omega
theorem zth {a0:List UInt8}:Ok (dT.raw a0) fun r=>r.length≤32:=by
 have hL:=qA
 unfold dT.raw
 refine Ok.cond' (fun h1=>?_) (fun h1=>?_)
 ·(try simp only [B] at h1);refine Ok.some' ?_;(try simp only [N]);omega
 (try simp only [B] at h1);refine Ok.bind (jI ?_) (fun r1 MV=>?_)
 ·(try simp only [N]);omega
 (try simp only [N] at MV);refine Ok.some' ?_;(try simp only [N]);omega
theorem zs1 {a0:List UInt8} {a1:Int} (ha:wt a0≤1000000000):Ok (PS.raw a0 a1) fun r=>r.length≤a0.length+32:=by
 (try simp only [N] at ha);have hL:=qA
 unfold PS.raw
 refine Ok.cond' (fun h1=>?_) (fun h1=>?_)
 ·(try simp only [B] at h1);refine Ok.some' ?_;(try simp only [N]);omega
 (try simp only [B] at h1);refine Ok.guard ?_ ?_
 ·(try simp only [N]);omega
 refine Ok.join (fun y1:(List UInt8)=>y1.length≤a0.length+32) (fun y1 UV=>?_) (fun k2 NV=>?_)
 ·(try simp only [N] at UV);refine Ok.some' ?_;(try simp only [N]);omega
 refine Ok.loopR (fun x3:(List UInt8) × Int=>0≤x3.2∧x3.2≤64∧x3.1.length≤a0.length+32) (fun x3=>(64 - x3.2).toNat) ?_ ?_ (fun x3 XY k4 bW=>?_)
 iterate 2 (·(try simp only [N]);omega)
 (try simp only [N] at XY);refine Ok.condR (fun h2=>?_) (fun h2=>?_)
 ·(try simp only [B] at h2);refine NV _ ?_;(try simp only [N]);omega
 (try simp only [B] at h2);refine Ok.bind (jI ?_) (fun r5 TV=>?_)
 ·(try simp only [N]);omega
 (try simp only [N] at TV);refine bW _ ?_ ?_
 iterate 2 (·(try have:=zA (a:=x3.2) (b:=1) (by omega) (by omega));(try simp only);omega)
theorem zgf {a0:List UInt8} {a1:List UInt8} {a2:List UInt8} {a3:Int} (ha:wt a1≤1000000000) (hb:wt a2≤1000000000):Ok (xO.raw a0 a1 a2 a3) fun r=>r.length≤64:=by
 (try simp only [N] at ha);(try simp only [N] at hb);have hL:=qA
 unfold xO.raw
 refine Ok.bind (ztw ?_ ?_) (fun r1 MV=>?_)
 iterate 2 (·(try simp only [N]);omega)
 (try simp only [N] at MV);refine Ok.bind (zth) (fun r2 VV=>?_);(try simp only [N] at VV);refine Ok.cond' (fun h1=>?_) (fun h1=>?_)
 ·(try simp only [B] at h1);refine Ok.some' ?_;(try simp only [N]);omega
 (try simp only [B] at h1);refine Ok.bind (zs1 ?_) (fun r3 YV=>?_)
 ·(try simp only [N]);omega
 (try simp only [N] at YV);refine Ok.some' ?_;(try simp only [N]);omega
theorem zgh {a0:List UInt8} {a1:Int} {a2:G.Frame} (ha:wt a2≤1000000000):Ok (zO.raw a0 a1 a2) fun r=>wt r.1≤200:=by
 (try simp only [N] at ha);have hL:=qA
 unfold zO.raw
 refine Ok.joinR (fun y1:Bool=>y1=false→wt a2≤112) (fun k2 NV=>?_) (fun y1 UV=>?_)
 ·refine Ok.cond' (fun h1=>?_) (fun h1=>?_)
  ·exact NV _ fun h=>nomatch h
  (try simp only [B] at h1);have f2:=mI h1;(try simp only [N] at f2);refine NV _ fun q3=>?_;(try simp only [B] at q3);(try simp only [N]);omega
 refine Ok.cond' (fun h4=>?_) (fun h4=>?_)
 ·refine Ok.some' ?_;(try simp only [N]);omega
 replace UV:=UV h4;(try simp only [N] at UV);refine Ok.bind (zgq ?_ ?_ ?_) (fun r3 YV=>?_)
 iterate 3 (·(try simp only [N]);omega)
 (try simp only [N] at YV);refine Ok.cond' (fun h5=>?_) (fun h5=>?_)
 ·(try simp only [B] at h5);refine Ok.some' ?_;(try simp only [N]);omega
 (try simp only [B] at h5);refine Ok.same (XA ?_) ?_
 ·(try simp only [N]);omega
 refine Ok.some' ?_;(try simp only [N]);omega
end Go.D
namespace Go.D
theorem MJ {a0:Int}:Ok (gH.raw a0) fun r=>True:=by
 have hL:=qA
 unfold gH.raw
 refine Ok.cond' (fun h1=>?_) (fun h1=>?_)
 ·(try simp only [B] at h1);exact Ok.some' trivial
 (try simp only [B] at h1);exact Ok.some' trivial
theorem ztO {a0:G.Timer} {a1:Int}:Ok (OT.raw a0 a1) fun r=>True:=by
 have hL:=qA
 unfold OT.raw
 refine Ok.join (fun y1:Bool=>True) (fun y1 UV=>?_) (fun k2 NV=>?_)
 ·exact Ok.some' trivial
 refine Ok.condR (fun h1=>?_) (fun h1=>?_)
 ·exact NV _ trivial
 (try simp only [B] at h1);refine Ok.condR (fun h2=>?_) (fun h2=>?_)
 ·exact NV _ trivial
 (try simp only [B] at h2);refine Ok.condR (fun h3=>?_) (fun h3=>?_)
 ·exact NV _ trivial
 exact NV _ trivial
theorem SO {a0:G.Timer} {a1:Int}:Ok (LI.raw a0 a1) fun r=>True:=by
 have hL:=qA
 unfold LI.raw
 refine Ok.bind (ztO) (fun r1 MV=>?_);refine Ok.cond' (fun h1=>?_) (fun h1=>?_)
 ·(try simp only [B] at h1);exact Ok.some' trivial
 (try simp only [B] at h1);refine Ok.cond' (fun h2=>?_) (fun h2=>?_)
 ·(try simp only [B] at h2);exact Ok.some' trivial
 (try simp only [B] at h2);refine Ok.join (fun y2:Int=>True) (fun y2 WV=>?_) (fun k3 PV=>?_)
 ·exact Ok.some' trivial
 refine Ok.cond' (fun h3=>?_) (fun h3=>?_)
 ·exact PV _ trivial
 exact PV _ trivial
theorem zgF {a0:G.Client} (ha:wt a0≤1000000000):Ok (iP.raw a0) fun r=>wt r≤a0.Cn.length:=by
 (try simp only [N] at ha);have hL:=qA
 unfold iP.raw
 refine Ok.guard ?_ ?_
 ·(try simp only [N]);omega
 refine Ok.some' ?_;(try simp only [N]);omega
theorem kU {a0:G.Client} (ha:wt a0≤1000000000) (hb:1≤a0.Id∧a0.Id≤9∧1≤a0.Psk.length∧a0.Psk.length≤32∧0≤a0.At.Host∧a0.At.Host≤4294967295∧0≤a0.At.Port∧a0.At.Port≤65535):Ok (QJ.raw a0) fun r=>wt r≤wt a0∧r.Id=a0.Id:=by
 (try simp only [N] at ha);(try simp only [N] at hb);have hL:=qA
 unfold QJ.raw
 refine Ok.bind (zec ?_ ?_ ?_ ?_) (fun r1 MV=>?_)
 iterate 4 (·(try simp only [N]);omega)
 (try simp only [N] at MV);refine Ok.some' ?_;(try simp only [N]);omega
theorem zge {a0:G.Client} {a1:Int} {a2:List UInt8} (ha:wt a0≤1000000000) (hb:wt a2≤1000000000):Ok (vO.raw a0 a1 a2) fun r=>wt r.1≤wt a0+12∧r.1.Id=a0.Id∧r.2.1.length≤1∧wt r.2.1≤400∧wt r.2.2.1≤2000:=by
 (try simp only [N] at ha);(try simp only [N] at hb);have hL:=qA
 unfold vO.raw
 refine Ok.same (XA ?_) ?_
 ·(try simp only [N]);omega
 refine Ok.joinR (fun y2:Bool=>y2=false→CF a0∧a2.length=12) (fun k3 PV=>?_) (fun y2 WV=>?_)
 ·refine Ok.bind (gJ ?_) (fun r4 SV=>?_)
  ·(try simp only [N]);omega
  refine Ok.cond' (fun h1=>?_) (fun h1=>?_)
  ·exact PV _ fun h=>nomatch h
  (try simp only [B] at h1);replace SV:=SV h1;(try simp only [N] at SV);refine Ok.cond' (fun h2=>?_) (fun h2=>?_)
  ·exact PV _ fun h=>nomatch h
  (try simp only [B] at h2);refine PV _ fun q3=>?_;(try simp only [B] at q3);(try simp only [N]);omega
 refine Ok.cond' (fun h4=>?_) (fun h4=>?_)
 ·refine Ok.some' ?_;(try simp only [N]);omega
 replace WV:=WV h4;(try simp only [N] at WV);refine Ok.cond' (fun h5=>?_) (fun h5=>?_)
 ·(try simp only [B] at h5);refine Ok.some' ?_;(try simp only [N]);omega
 (try simp only [B] at h5);refine Ok.guard ?_ ?_
 ·(try simp only [N]);omega
 refine Ok.bind (MJ) (fun r5 TV=>?_);refine Ok.guard ?_ ?_
 ·(try simp only [N]);omega
 refine Ok.bind (zgF ?_) (fun r6 lW=>?_)
 ·(try simp only [N]);omega
 (try simp only [N] at lW);refine Ok.some' ?_;(try simp only [N]);omega
theorem zs5 {a0:G.Client} {a1:Int} {a2:List UInt8} (ha:wt a0≤1000000000) (hb:wt a2≤1000000000):Ok (RS.raw a0 a1 a2) fun r=>wt r.1≤wt a0∧r.1.Id=a0.Id∧r.2.1.length≤1∧wt r.2.1≤400∧wt r.2.2.1≤2000:=by
 (try simp only [N] at ha);(try simp only [N] at hb);have hL:=qA
 unfold RS.raw
 refine Ok.same (XA ?_) ?_
 ·(try simp only [N]);omega
 refine Ok.joinR (fun y2:Bool=>y2=false→CF a0∧a2.length≤40) (fun k3 PV=>?_) (fun y2 WV=>?_)
 ·refine Ok.bind (gJ ?_) (fun r4 SV=>?_)
  ·(try simp only [N]);omega
  refine Ok.cond' (fun h1=>?_) (fun h1=>?_)
  ·exact PV _ fun h=>nomatch h
  (try simp only [B] at h1);replace SV:=SV h1;(try simp only [N] at SV);refine Ok.cond' (fun h2=>?_) (fun h2=>?_)
  ·exact PV _ fun h=>nomatch h
  (try simp only [B] at h2);refine PV _ fun q3=>?_;(try simp only [B] at q3);(try simp only [N]);omega
 refine Ok.cond' (fun h4=>?_) (fun h4=>?_)
 ·refine Ok.some' ?_;(try simp only [N]);omega
 replace WV:=WV h4;(try simp only [N] at WV);refine Ok.cond' (fun h5=>?_) (fun h5=>?_)
 ·(try simp only [B] at h5);refine Ok.some' ?_;(try simp only [N]);omega
 (try simp only [B] at h5);refine Ok.bind (uL ?_ ?_) (fun r5 TV=>?_)
 iterate 2 (·(try simp only [N]);omega)
 (try simp only [N] at TV);refine Ok.cond' (fun h6=>?_) (fun h6=>?_)
 ·(try simp only [B] at h6);refine Ok.some' ?_;(try simp only [N]);omega
 (try simp only [B] at h6);refine Ok.guard ?_ ?_
 ·(try simp only [N]);omega
 refine Ok.guard ?_ ?_
 ·(try simp only [N]);omega
 refine Ok.bind (MI ?_ ?_) (fun r6 lW=>?_)
 iterate 2 (·(try simp only [N]);omega)
 (try simp only [N] at lW);refine Ok.some' ?_;(try simp only [N]);omega
theorem zs4 {a0:G.Client} {a1:Int} (ha:wt a0≤1000000000):Ok (QS.raw a0 a1) fun r=>wt r.1≤wt a0+32∧r.1.Id=a0.Id∧r.2.1.length≤1∧wt r.2.1≤400∧wt r.2.2.1≤2000:=by
 (try simp only [N] at ha);have hL:=qA
 unfold QS.raw
 refine Ok.same (XA ?_) ?_
 ·(try simp only [N]);omega
 refine Ok.joinR (fun y2:Bool=>y2=false→CF a0) (fun k3 PV=>?_) (fun y2 WV=>?_)
 ·refine Ok.bind (gJ ?_) (fun r4 SV=>?_)
  ·(try simp only [N]);omega
  refine Ok.cond' (fun h1=>?_) (fun h1=>?_)
  ·exact PV _ fun h=>nomatch h
  (try simp only [B] at h1);replace SV:=SV h1;(try simp only [N] at SV);refine PV _ fun q2=>?_;(try simp only [B] at q2);(try simp only [N]);omega
 refine Ok.cond' (fun h3=>?_) (fun h3=>?_)
 ·refine Ok.some' ?_;(try simp only [N]);omega
 replace WV:=WV h3;(try simp only [N] at WV);refine Ok.joinR (fun y5:Bool=>True) (fun k6 kX=>?_) (fun y5 AZ=>?_)
 ·refine Ok.cond' (fun h4=>?_) (fun h4=>?_)
  ·exact kX _ trivial
  exact kX _ trivial
 refine Ok.cond' (fun h5=>?_) (fun h5=>?_)
 ·refine Ok.some' ?_;(try simp only [N]);omega
 refine Ok.bind (ztR ?_) (fun r7 KW=>?_)
 ·(try simp only [N]);omega
 (try simp only [N] at KW);refine Ok.bind (zga ?_) (fun r8 xW=>?_)
 ·(try simp only [N]);omega
 (try simp only [N] at xW);refine Ok.joinR (fun y9:Bool=>True) (fun k10 XV=>?_) (fun y9 dY=>?_)
 ·refine Ok.cond' (fun h6=>?_) (fun h6=>?_)
  ·exact XV _ trivial
  exact XV _ trivial
 refine Ok.cond' (fun h7=>?_) (fun h7=>?_)
 ·refine Ok.some' ?_;(try simp only [N]);omega
 refine Ok.bind (MJ) (fun r11 vW=>?_);refine Ok.bind (MI ?_ ?_) (fun r12 aW=>?_)
 iterate 2 (·(try simp only [N]);omega)
 (try simp only [N] at aW);refine Ok.some' ?_;(try simp only [N]);omega
theorem zs6 {a0:G.Client} {a1:Int} (ha:wt a0≤1000000000):Ok (SS.raw a0 a1) fun r=>wt r.1≤wt a0∧r.1.Id=a0.Id∧r.2.1.length≤2∧wt r.2.1≤900∧wt r.2.2≤2000:=by
 (try simp only [N] at ha);have hL:=qA
 unfold SS.raw
 refine Ok.same (XA ?_) ?_
 ·(try simp only [N]);omega
 refine Ok.joinR (fun y2:Bool=>y2=false→CF a0) (fun k3 PV=>?_) (fun y2 WV=>?_)
 ·refine Ok.bind (gJ ?_) (fun r4 SV=>?_)
  ·(try simp only [N]);omega
  refine Ok.cond' (fun h1=>?_) (fun h1=>?_)
  ·exact PV _ fun h=>nomatch h
  (try simp only [B] at h1);replace SV:=SV h1;(try simp only [N] at SV);refine Ok.cond' (fun h2=>?_) (fun h2=>?_)
  ·exact PV _ fun h=>nomatch h
  (try simp only [B] at h2);refine PV _ fun q3=>?_;(try simp only [B] at q3);(try simp only [N]);omega
 refine Ok.cond' (fun h4=>?_) (fun h4=>?_)
 ·refine Ok.some' ?_;(try simp only [N]);omega
 replace WV:=WV h4;(try simp only [N] at WV);refine Ok.cond' (fun h5=>?_) (fun h5=>?_)
 ·(try simp only [B] at h5);refine Ok.bind (SO) (fun r5 TV=>?_);refine Ok.cond' (fun h6=>?_) (fun h6=>?_)
  ·(try simp only [B] at h6);refine Ok.bind (kU ?_ ?_) (fun r6 lW=>?_)
   iterate 2 (·(try simp only [N]);omega)
   (try simp only [N] at lW);refine Ok.guard ?_ ?_
   ·(try simp only [N]);omega
   refine Ok.guard ?_ ?_
   ·(try simp only [N]);omega
   refine Ok.some' ?_;(try simp only [N]);omega
  (try simp only [B] at h6);refine Ok.joinR (fun y8:Bool=>True) (fun k9 LX=>?_) (fun y8 s4=>?_)
  ·refine Ok.condR (fun h7=>?_) (fun h7=>?_)
   ·exact LX _ trivial
   exact LX _ trivial
  refine Ok.joinR (fun y10:(List G.Frame)=>y10.length≤1∧wt y10≤400) (fun k11 uW=>?_) (fun y10 SW=>?_)
  ·refine Ok.condR (fun h8=>?_) (fun h8=>?_)
   ·refine uW _ ?_;(try simp only [N]);omega
   refine Ok.bind (zgF ?_) (fun r12 aW=>?_)
   ·(try simp only [N]);omega
   (try simp only [N] at aW);refine Ok.guard ?_ ?_
   ·(try simp only [N]);omega
   refine uW _ ?_;(try simp only [N]);omega
  (try simp only [N] at SW);refine Ok.joinR (fun y13:Bool=>True) (fun k14 ZV=>?_) (fun y13 RW=>?_)
  ·refine Ok.condR (fun h9=>?_) (fun h9=>?_)
   ·exact ZV _ trivial
   exact ZV _ trivial
  refine Ok.join (fun y15:(List G.Frame)=>y15.length≤2∧wt y15≤900) (fun y15 YY=>?_) (fun k16 KX=>?_)
  ·(try simp only [N] at YY);refine Ok.some' ?_;(try simp only [N]);omega
  refine Ok.condR (fun oW=>?_) (fun oW=>?_)
  ·refine KX _ ?_;(try simp only [N]);omega
  refine Ok.same (XA ?_) ?_
  ·(try simp only [N]);omega
  refine Ok.guard ?_ ?_
  ·(try simp only [N]);omega
  refine KX _ ?_;(try simp only [N]);omega
 (try simp only [B] at h5);refine Ok.cond' (fun gW=>?_) (fun gW=>?_)
 ·(try simp only [B] at gW);(try have:=PA (a:=a1) (b:=a0.Last) (by omega) (by omega));refine Ok.bind (kU ?_ ?_) (fun r18 sX=>?_)
  iterate 2 (·(try simp only [N]);omega)
  (try simp only [N] at sX);refine Ok.guard ?_ ?_
  ·(try simp only [N]);omega
  refine Ok.guard ?_ ?_
  ·(try simp only [N]);omega
  refine Ok.some' ?_;(try simp only [N]);omega
 (try simp only [B] at gW);(try have:=PA (a:=a1) (b:=a0.Last) (by omega) (by omega));refine Ok.bind (zgd ?_) (fun r20 wX=>?_)
 ·(try simp only [N]);omega
 (try simp only [N] at wX);refine Ok.bind (SO) (fun r21 xZ=>?_);refine Ok.cond' (fun FW=>?_) (fun FW=>?_)
 ·(try simp only [B] at FW);refine Ok.some' ?_;(try simp only [N]);omega
 (try simp only [B] at FW);refine Ok.joinR (fun y22:G.Client=>wt y22≤wt a0∧y22.Id=a0.Id) (fun k23 nY=>?_) (fun y22 A0=>?_)
 ·refine Ok.condR (fun UW=>?_) (fun UW=>?_)
  ·(try simp only [B] at UW);refine nY _ ?_;(try simp only [N]);omega
  (try simp only [B] at UW);refine Ok.bind (MJ) (fun r24 wY=>?_);refine nY _ ?_;(try simp only [N]);omega
 (try simp only [N] at A0);refine Ok.bind (zga ?_) (fun r25 QW=>?_)
 ·(try simp only [N]);omega
 (try simp only [N] at QW);refine Ok.join (fun y26:(List G.Frame) × (List G.Note) × G.Client=>y26.1.length≤1∧wt y26.1≤400∧wt y26.2.1≤2000∧wt y26.2.2≤wt a0∧y26.2.2.Id=a0.Id) (fun y26 DY=>?_) (fun k27 oX=>?_)
 ·(try simp only [N] at DY);refine Ok.some' ?_;(try simp only [N]);omega
 refine Ok.condR (fun mX=>?_) (fun mX=>?_)
 ·(try simp only [B] at mX);refine oX _ ?_;(try simp only [N]);omega
 (try simp only [B] at mX);refine Ok.guard ?_ ?_
 ·(try simp only [N]);omega
 refine Ok.bind (MI ?_ ?_) (fun r28 VZ=>?_)
 iterate 2 (·(try simp only [N]);omega)
 (try simp only [N] at VZ);refine Ok.guard ?_ ?_
 ·(try simp only [N]);omega
 refine oX _ ?_;(try simp only [N]);omega
theorem ztv {a0:G.Client} {a1:G.Addr} (ha:wt a0≤1000000000):Ok (xT.raw a0 a1) fun r=>wt r≤wt a0∧r.Id=a0.Id:=by
 (try simp only [N] at ha);have hL:=qA
 unfold xT.raw
 refine Ok.same (XA ?_) ?_
 ·(try simp only [N]);omega
 refine Ok.joinR (fun y2:Bool=>True) (fun k3 PV=>?_) (fun y2 WV=>?_)
 ·refine Ok.bind (gJ ?_) (fun r4 SV=>?_)
  ·(try simp only [N]);omega
  refine Ok.condR (fun h1=>?_) (fun h1=>?_)
  ·exact PV _ trivial
  exact PV _ trivial
 refine Ok.join (fun y5:G.Client=>wt y5≤wt a0∧y5.Id=a0.Id) (fun y5 AZ=>?_) (fun k6 kX=>?_)
 ·(try simp only [N] at AZ);refine Ok.some' ?_;(try simp only [N]);omega
 refine Ok.condR (fun h2=>?_) (fun h2=>?_)
 ·refine kX _ ?_;(try simp only [N]);omega
 refine kX _ ?_;(try simp only [N]);omega
theorem ztm {a0:G.Client} (ha:wt a0≤1000000000):Ok (gT.raw a0) fun r=>wt r.1≤wt a0∧r.1.Id=a0.Id∧wt r.2≤500:=by
 (try simp only [N] at ha);have hL:=qA
 unfold gT.raw
 refine Ok.bind (gJ ?_) (fun r1 MV=>?_)
 ·(try simp only [N]);omega
 refine Ok.cond' (fun h1=>?_) (fun h1=>?_)
 ·(try simp only [B] at h1);refine Ok.same (XA ?_) ?_
  ·(try simp only [N]);omega
  refine Ok.some' ?_;(try simp only [N]);omega
 (try simp only [B] at h1);replace MV:=MV h1;(try simp only [N] at MV);refine Ok.condR (fun h2=>?_) (fun h2=>?_)
 ·(try simp only [B] at h2);refine Ok.bind (kU ?_ ?_) (fun r5 TV=>?_)
  iterate 2 (·(try simp only [N]);omega)
  (try simp only [N] at TV);refine Ok.some' ?_;(try simp only [N]);omega
 (try simp only [B] at h2);refine Ok.bind (kU ?_ ?_) (fun r3 YV=>?_)
 iterate 2 (·(try simp only [N]);omega)
 (try simp only [N] at YV);refine Ok.guard ?_ ?_
 ·(try simp only [N]);omega
 refine Ok.some' ?_;(try simp only [N]);omega
theorem zbQ {a0:G.Client} {a1:Int} {a2:G.Frame} (ha:wt a0≤1000000000) (hb:wt a2≤1000000000):Ok (vL.raw a0 a1 a2) fun r=>wt r.1≤wt a0+2000∧r.1.Id=a0.Id∧r.2.1.length≤1∧wt r.2.1≤400∧wt r.2.2≤8000:=by
 (try simp only [N] at ha);(try simp only [N] at hb);have hL:=qA
 unfold vL.raw
 refine Ok.same (XA ?_) ?_
 ·(try simp only [N]);omega
 refine Ok.joinR (fun y2:Bool=>y2=false→CF a0∧wt a2≤112) (fun k3 PV=>?_) (fun y2 WV=>?_)
 ·refine Ok.bind (gJ ?_) (fun r4 SV=>?_)
  ·(try simp only [N]);omega
  refine Ok.cond' (fun h1=>?_) (fun h1=>?_)
  ·exact PV _ fun h=>nomatch h
  (try simp only [B] at h1);replace SV:=SV h1;(try simp only [N] at SV);refine Ok.cond' (fun h2=>?_) (fun h2=>?_)
  ·exact PV _ fun h=>nomatch h
  (try simp only [B] at h2);refine PV _ fun q3=>?_;(try simp only [B] at q3);have f4:=mI q3;(try simp only [N] at f4);(try simp only [N]);omega
 refine Ok.cond' (fun h5=>?_) (fun h5=>?_)
 ·refine Ok.some' ?_;(try simp only [N]);omega
 replace WV:=WV h5;(try simp only [N] at WV);refine Ok.joinR (fun y5:Bool=>True) (fun k6 kX=>?_) (fun y5 AZ=>?_)
 ·refine Ok.condR (fun h6=>?_) (fun h6=>?_)
  ·exact kX _ trivial
  (try simp only [B] at h6);refine Ok.condR (fun h7=>?_) (fun h7=>?_)
  ·exact kX _ trivial
  (try simp only [B] at h7);refine Ok.bind (kO ?_) (fun r7 KW=>?_)
  ·(try simp only [N]);omega
  (try simp only [N] at KW);exact kX _ trivial
 refine Ok.cond' (fun h8=>?_) (fun h8=>?_)
 ·refine Ok.bind (zgh ?_) (fun r8 xW=>?_)
  ·(try simp only [N]);omega
  (try simp only [N] at xW);refine Ok.bind (zgf ?_ ?_) (fun r9 gX=>?_)
  iterate 2 (·(try simp only [N]);omega)
  (try simp only [N] at gX);refine Ok.bind (zbP ?_ ?_) (fun r10 BW=>?_)
  iterate 2 (·(try simp only [N]);omega)
  (try simp only [N] at BW);refine Ok.bind (MJ) (fun r11 vW=>?_);refine Ok.guard ?_ ?_
  ·(try simp only [N]);omega
  refine Ok.guard ?_ ?_
  ·(try simp only [N]);omega
  refine Ok.guard ?_ ?_
  ·(try simp only [N]);omega
  refine Ok.bind (zbS) (fun r13 IW=>?_);(try simp only [N] at IW);refine Ok.bind (zbW ?_ ?_ ?_) (fun r14 OW=>?_)
  iterate 3 (·(try simp only [N]);omega)
  (try simp only [N] at OW);refine Ok.bind (zbT ?_ ?_) (fun r15 tW=>?_)
  iterate 2 (·(try simp only [N]);omega)
  (try simp only [N] at tW);refine Ok.guard ?_ ?_
  ·(try simp only [N]);omega
  refine Ok.same (XA ?_) ?_
  ·(try simp only [N]);omega
  refine Ok.guard ?_ ?_
  ·(try simp only [N]);omega
  refine Ok.some' ?_;(try simp only [N]);omega
 refine Ok.joinR (fun y17:Bool=>True) (fun k18 mZ=>?_) (fun y17 T4=>?_)
 ·refine Ok.cond' (fun h9=>?_) (fun h9=>?_)
  ·exact mZ _ trivial
  exact mZ _ trivial
 refine Ok.cond' (fun oW=>?_) (fun oW=>?_)
 ·refine Ok.some' ?_;(try simp only [N]);omega
 refine Ok.bind (zgc ?_ ?_) (fun r19 fX=>?_)
 iterate 2 (·(try simp only [N]);omega)
 (try simp only [N] at fX);refine Ok.cond' (fun gW=>?_) (fun gW=>?_)
 ·(try simp only [B] at gW);refine Ok.some' ?_;(try simp only [N]);omega
 (try simp only [B] at gW);refine Ok.bind (zgk ?_) (fun r20 wX=>?_)
 ·(try simp only [N]);omega
 (try simp only [N] at wX);refine Ok.bind (LJ ?_) (fun r21 xZ=>?_)
 ·(try simp only [N]);omega
 (try simp only [N] at xZ);refine Ok.bind (PT ?_ ?_ ?_) (fun r22 PW=>?_)
 iterate 3 (·(try simp only [N]);omega)
 (try simp only [N] at PW);refine Ok.guard ?_ ?_
 ·(try simp only [N]);omega
 refine Ok.joinR (fun y23:(List G.Note) × G.Client=>wt y23.1≤2000∧wt y23.2≤wt a0+1000∧y23.2.Id=a0.Id) (fun k24 zW=>?_) (fun y23 xX=>?_)
 ·refine Ok.condR (fun FW=>?_) (fun FW=>?_)
  ·(try simp only [B] at FW);refine zW _ ?_;(try simp only [N]);omega
  (try simp only [B] at FW);refine Ok.guard ?_ ?_
  ·(try simp only [N]);omega
  refine Ok.guard ?_ ?_
  ·(try simp only [N]);omega
  refine Ok.guard ?_ ?_
  ·(try simp only [N]);omega
  refine Ok.guard ?_ ?_
  ·(try simp only [N]);omega
  refine zW _ ?_;(try simp only [N]);omega
 (try simp only [N] at xX);refine Ok.joinR (fun y26:(List G.Note) × G.Client=>wt y26.1≤3000∧wt y26.2≤wt a0+1000∧y26.2.Id=a0.Id) (fun k27 oX=>?_) (fun y26 DY=>?_)
 ·refine Ok.condR (fun UW=>?_) (fun UW=>?_)
  ·(try simp only [B] at UW);refine oX _ ?_;(try simp only [N]);omega
  (try simp only [B] at UW);refine Ok.guard ?_ ?_
  ·(try simp only [N]);omega
  refine Ok.guard ?_ ?_
  ·(try simp only [N]);omega
  refine Ok.guard ?_ ?_
  ·(try simp only [N]);omega
  refine oX _ ?_;(try simp only [N]);omega
 (try simp only [N] at DY);refine Ok.joinR (fun y29:(List G.Note)=>wt y29≤4000) (fun k30 pZ=>?_) (fun y29 S3=>?_)
 ·refine Ok.condR (fun mX=>?_) (fun mX=>?_)
  ·(try simp only [B] at mX);refine pZ _ ?_;(try simp only [N]);omega
  (try simp only [B] at mX);refine Ok.guard ?_ ?_
  ·(try simp only [N]);omega
  refine Ok.guard ?_ ?_
  ·(try simp only [N]);omega
  refine Ok.guard ?_ ?_
  ·(try simp only [N]);omega
  refine pZ _ ?_;(try simp only [N]);omega
 (try simp only [N] at S3);refine Ok.join (fun y32:(List G.Frame) × (List G.Note) × G.Client=>y32.1.length≤1∧wt y32.1≤400∧wt y32.2.1≤8000∧wt y32.2.2≤wt a0+2000∧y32.2.2.Id=a0.Id) (fun y32 C1=>?_) (fun k33 oY=>?_)
 ·(try simp only [N] at C1);refine Ok.some' ?_;(try simp only [N]);omega
 refine Ok.condR (fun yX=>?_) (fun yX=>?_)
 ·(try simp only [B] at yX);refine oY _ ?_;(try simp only [N]);omega
 (try simp only [B] at yX);refine Ok.bind (uL ?_ ?_) (fun r34 YZ=>?_)
 iterate 2 (·(try simp only [N]);omega)
 (try simp only [N] at YZ);refine Ok.join (fun y35:(List G.Frame) × (List G.Note) × G.Client=>y35.1.length≤1∧wt y35.1≤400∧wt y35.2.1≤8000∧wt y35.2.2≤wt a0+2000∧y35.2.2.Id=a0.Id) (fun y35 U3=>?_) (fun k36 LY=>?_)
 ·(try simp only [N] at U3);refine oY _ ?_;(try simp only [N]);omega
 refine Ok.condR (fun PX=>?_) (fun PX=>?_)
 ·(try simp only [B] at PX);refine LY _ ?_;(try simp only [N]);omega
 (try simp only [B] at PX);refine Ok.guard ?_ ?_
 ·(try simp only [N]);omega
 refine Ok.bind (MI ?_ ?_) (fun r37 ZZ=>?_)
 iterate 2 (·(try simp only [N]);omega)
 (try simp only [N] at ZZ);refine Ok.guard ?_ ?_
 ·(try simp only [N]);omega
 refine Ok.guard ?_ ?_
 ·(try simp only [N]);omega
 refine Ok.guard ?_ ?_
 ·(try simp only [N]);omega
 refine Ok.guard ?_ ?_
 ·(try simp only [N]);omega
 refine LY _ ?_;(try simp only [N]);omega
end Go.D
namespace Go.D
theorem qL {a0:G.Sess} (ha:wt a0≤1000000000):Ok (RH.raw a0) fun r=>wt r≤wt a0:=by
 (try simp only [N] at ha);have hL:=qA
 unfold RH.raw
 refine Ok.bind (nL ?_) (fun r1 MV=>?_)
 ·(try simp only [N]);omega
 refine Ok.cond' (fun h1=>?_) (fun h1=>?_)
 ·(try simp only [B] at h1);refine Ok.same (XA ?_) ?_
  ·(try simp only [N]);omega
  refine Ok.some' ?_;(try simp only [N]);omega
 (try simp only [B] at h1);replace MV:=MV h1;(try simp only [N] at MV);refine Ok.guard ?_ ?_
 ·(try simp only [N]);omega
 refine Ok.guard ?_ ?_
 ·(try simp only [N]);omega
 refine Ok.some' ?_;(try simp only [N]);omega
theorem zgp {a0:G.Addr}:Ok (JO.raw a0) fun r=>wt r≤0:=by
 have hL:=qA
 unfold JO.raw
 refine Ok.some' ?_;(try simp only [N]);omega
theorem zgs {a0:List UInt8} {a1:Int} {a2:G.Addr} {a3:G.Frame} (ha:wt a3≤1000000000):Ok (OO.raw a0 a1 a2 a3) fun r=>wt r≤400:=by
 (try simp only [N] at ha);have hL:=qA
 unfold OO.raw
 refine Ok.joinR (fun y1:Bool=>y1=false→wt a3≤112) (fun k2 NV=>?_) (fun y1 UV=>?_)
 ·refine Ok.cond' (fun h1=>?_) (fun h1=>?_)
  ·exact NV _ fun h=>nomatch h
  (try simp only [B] at h1);have f2:=fO h1;(try simp only [N] at f2);refine Ok.cond' (fun h3=>?_) (fun h3=>?_)
  ·exact NV _ fun h=>nomatch h
  (try simp only [B] at h3);refine Ok.cond' (fun h4=>?_) (fun h4=>?_)
  ·exact NV _ fun h=>nomatch h
  (try simp only [B] at h4);have f5:=XH h4;(try simp only [N] at f5);refine Ok.cond' (fun h6=>?_) (fun h6=>?_)
  ·exact NV _ fun h=>nomatch h
  (try simp only [B] at h6);have f7:=mI h6;(try simp only [N] at f7);refine NV _ fun q8=>?_;(try simp only [B] at q8);(try simp only [N]);omega
 refine Ok.cond' (fun h9=>?_) (fun h9=>?_)
 ·refine Ok.some' ?_;(try simp only [N]);omega
 replace UV:=UV h9;(try simp only [N] at UV);refine Ok.guard ?_ ?_
 ·(try simp only [N]);omega
 refine Ok.guard ?_ ?_
 ·(try simp only [N]);omega
 refine Ok.bind (zgf ?_ ?_) (fun r3 YV=>?_)
 iterate 2 (·(try simp only [N]);omega)
 (try simp only [N] at YV);refine Ok.bind (zbP ?_ ?_) (fun r4 SV=>?_)
 iterate 2 (·(try simp only [N]);omega)
 (try simp only [N] at SV);refine Ok.bind (zgp) (fun r5 TV=>?_);(try simp only [N] at TV);refine Ok.some' ?_;(try simp only [N]);omega
theorem zbO {a0:G.Tab} {a1:G.Sess} (ha:wt a0≤1000000000) (hb:wt a1≤1000000000):Ok (oL.raw a0 a1) fun r=>wt r.1≤wt a0+wt a1+1∧(r.2=0→0<r.1.L.length)∧r.1.L.length≤a0.L.length+1:=by
 (try simp only [N] at ha);(try simp only [N] at hb);have hL:=qA
 unfold oL.raw
 refine Ok.same (XA ?_) ?_
 ·(try simp only [N]);omega
 refine Ok.joinR (fun y2:Bool=>True) (fun k3 PV=>?_) (fun y2 WV=>?_)
 ·refine Ok.bind (zgU ?_) (fun r4 SV=>?_)
  ·(try simp only [N]);omega
  refine Ok.cond' (fun h1=>?_) (fun h1=>?_)
  ·exact PV _ trivial
  (try simp only [B] at h1);replace SV:=SV h1;(try simp only [N] at SV);refine Ok.bind (nL ?_) (fun r5 TV=>?_)
  ·(try simp only [N]);omega
  refine Ok.cond' (fun h2=>?_) (fun h2=>?_)
  ·exact PV _ trivial
  exact PV _ trivial
 refine Ok.cond' (fun h3=>?_) (fun h3=>?_)
 ·refine Ok.some' ?_;(try simp only [N]);omega
 refine Ok.bind (cR ?_) (fun r6 lW=>?_)
 ·(try simp only [N]);omega
 (try simp only [N] at lW);refine Ok.cond' (fun h4=>?_) (fun h4=>?_)
 ·(try simp only [B] at h4);refine Ok.some' ?_;(try simp only [N]);omega
 (try simp only [B] at h4);refine Ok.joinR (fun y7:Bool=>True) (fun k8 AX=>?_) (fun y7 BZ=>?_)
 ·refine Ok.bind (zqV ?_) (fun r9 gX=>?_)
  ·(try simp only [N]);omega
  (try simp only [N] at gX);refine Ok.cond' (fun h5=>?_) (fun h5=>?_)
  ·exact AX _ trivial
  exact AX _ trivial
 refine Ok.cond' (fun h6=>?_) (fun h6=>?_)
 ·refine Ok.some' ?_;(try simp only [N]);omega
 refine Ok.same (XA ?_) ?_
 ·(try simp only [N]);omega
 refine Ok.guard ?_ ?_
 ·(try simp only [N]);omega
 refine Ok.some' ?_;(try simp only [N]);omega
theorem ztC {a0:G.Sess} (ha:wt a0≤1000000000):Ok (FT.raw a0) fun r=>wt r.1≤wt a0∧r.2.1.length≤1∧wt r.2.1≤400∧wt r.2.2≤600:=by
 (try simp only [N] at ha);have hL:=qA
 unfold FT.raw
 refine Ok.same (XA ?_) ?_
 ·(try simp only [N]);omega
 refine Ok.joinR (fun y2:Bool=>y2=false→wt a0≤235) (fun k3 PV=>?_) (fun y2 WV=>?_)
 ·refine Ok.bind (nL ?_) (fun r4 SV=>?_)
  ·(try simp only [N]);omega
  refine Ok.cond' (fun h1=>?_) (fun h1=>?_)
  ·exact PV _ fun h=>nomatch h
  (try simp only [B] at h1);replace SV:=SV h1;(try simp only [N] at SV);refine Ok.cond' (fun h2=>?_) (fun h2=>?_)
  ·exact PV _ fun h=>nomatch h
  (try simp only [B] at h2);refine PV _ fun q3=>?_;(try simp only [B] at q3);(try simp only [N]);omega
 refine Ok.cond' (fun h4=>?_) (fun h4=>?_)
 ·refine Ok.some' ?_;(try simp only [N]);omega
 replace WV:=WV h4;(try simp only [N] at WV);refine Ok.bind (zf9 ?_) (fun r5 TV=>?_)
 ·(try simp only [N]);omega
 (try simp only [N] at TV);refine Ok.cond' (fun h5=>?_) (fun h5=>?_)
 ·(try simp only [B] at h5);refine Ok.some' ?_;(try simp only [N]);omega
 (try simp only [B] at h5);refine Ok.bind (MI ?_ ?_) (fun r6 lW=>?_)
 iterate 2 (·(try simp only [N]);omega)
 (try simp only [N] at lW);refine Ok.some' ?_;(try simp only [N]);omega
theorem ztF {a0:G.Sess} {a1:List UInt8} (ha:wt a0≤1000000000) (hb:wt a1≤1000000000):Ok (HT.raw a0 a1) fun r=>wt r.1≤wt a0∧r.2.1.length≤1∧wt r.2.1≤400∧wt r.2.2.1≤2000:=by
 (try simp only [N] at ha);(try simp only [N] at hb);have hL:=qA
 unfold HT.raw
 refine Ok.same (XA ?_) ?_
 ·(try simp only [N]);omega
 refine Ok.joinR (fun y2:Bool=>y2=false→wt a0≤235∧a1.length≤40) (fun k3 PV=>?_) (fun y2 WV=>?_)
 ·refine Ok.bind (nL ?_) (fun r4 SV=>?_)
  ·(try simp only [N]);omega
  refine Ok.cond' (fun h1=>?_) (fun h1=>?_)
  ·exact PV _ fun h=>nomatch h
  (try simp only [B] at h1);replace SV:=SV h1;(try simp only [N] at SV);refine PV _ fun q2=>?_;(try simp only [B] at q2);(try simp only [N]);omega
 refine Ok.cond' (fun h3=>?_) (fun h3=>?_)
 ·refine Ok.some' ?_;(try simp only [N]);omega
 replace WV:=WV h3;(try simp only [N] at WV);refine Ok.cond' (fun h4=>?_) (fun h4=>?_)
 ·(try simp only [B] at h4);refine Ok.some' ?_;(try simp only [N]);omega
 (try simp only [B] at h4);refine Ok.bind (uL ?_ ?_) (fun r5 TV=>?_)
 iterate 2 (·(try simp only [N]);omega)
 (try simp only [N] at TV);refine Ok.cond' (fun h5=>?_) (fun h5=>?_)
 ·(try simp only [B] at h5);refine Ok.some' ?_;(try simp only [N]);omega
 (try simp only [B] at h5);refine Ok.guard ?_ ?_
 ·(try simp only [N]);omega
 refine Ok.guard ?_ ?_
 ·(try simp only [N]);omega
 refine Ok.bind (MI ?_ ?_) (fun r6 lW=>?_)
 iterate 2 (·(try simp only [N]);omega)
 (try simp only [N] at lW);refine Ok.some' ?_;(try simp only [N]);omega
theorem ztG {a0:G.Sess} {a1:Int} (ha:wt a0≤1000000000):Ok (IT.raw a0 a1) fun r=>wt r≤wt a0+1600:=by
 (try simp only [N] at ha);have hL:=qA
 unfold IT.raw
 refine Ok.same (XA ?_) ?_
 ·(try simp only [N]);omega
 refine Ok.joinR (fun y2:Bool=>True) (fun k3 PV=>?_) (fun y2 WV=>?_)
 ·refine Ok.bind (nL ?_) (fun r4 SV=>?_)
  ·(try simp only [N]);omega
  refine Ok.cond' (fun h1=>?_) (fun h1=>?_)
  ·exact PV _ trivial
  (try simp only [B] at h1);replace SV:=SV h1;(try simp only [N] at SV);refine Ok.cond' (fun h2=>?_) (fun h2=>?_)
  ·exact PV _ trivial
  exact PV _ trivial
 refine Ok.cond' (fun h3=>?_) (fun h3=>?_)
 ·refine Ok.some' ?_;(try simp only [N]);omega
 refine Ok.cond' (fun h4=>?_) (fun h4=>?_)
 ·(try simp only [B] at h4);(try have:=PA (a:=a1) (b:=a0.Last) (by omega) (by omega));refine Ok.bind (qL ?_) (fun r5 TV=>?_)
  ·(try simp only [N]);omega
  (try simp only [N] at TV);refine Ok.some' ?_;(try simp only [N]);omega
 (try simp only [B] at h4);(try have:=PA (a:=a1) (b:=a0.Last) (by omega) (by omega));refine Ok.bind (zgd ?_) (fun r6 lW=>?_)
 ·(try simp only [N]);omega
 (try simp only [N] at lW);refine Ok.bind (zgo ?_) (fun r7 KW=>?_)
 ·(try simp only [N]);omega
 (try simp only [N] at KW);refine Ok.some' ?_;(try simp only [N]);omega
theorem ztD {a0:G.Sess} {a1:Int} {a2:G.Addr} {a3:G.Frame} {a4:List UInt8} (ha:wt a0≤1000000000) (hb:wt a3≤1000000000) (hc:wt a4≤1000000000):Ok (GT.raw a0 a1 a2 a3 a4) fun r=>wt r.1≤wt a0+5000∧r.2.1.length≤2∧wt r.2.1≤1000∧wt r.2.2.1≤10000:=by
 (try simp only [N] at ha);(try simp only [N] at hb);(try simp only [N] at hc);have hL:=qA
 unfold GT.raw
 refine Ok.same (XA ?_) ?_
 ·(try simp only [N]);omega
 refine Ok.joinR (fun y2:Bool=>y2=false→wt a0≤235) (fun k3 PV=>?_) (fun y2 WV=>?_)
 ·refine Ok.bind (nL ?_) (fun r4 SV=>?_)
  ·(try simp only [N]);omega
  refine Ok.cond' (fun h1=>?_) (fun h1=>?_)
  ·exact PV _ fun h=>nomatch h
  (try simp only [B] at h1);replace SV:=SV h1;(try simp only [N] at SV);refine Ok.cond' (fun h2=>?_) (fun h2=>?_)
  ·exact PV _ fun h=>nomatch h
  (try simp only [B] at h2);refine PV _ fun q3=>?_;(try simp only [B] at q3);have f4:=XH q3;(try simp only [N] at f4);(try simp only [N]);omega
 refine Ok.cond' (fun h5=>?_) (fun h5=>?_)
 ·refine Ok.some' ?_;(try simp only [N]);omega
 replace WV:=WV h5;(try simp only [N] at WV);refine Ok.bind (zgc ?_ ?_) (fun r5 TV=>?_)
 iterate 2 (·(try simp only [N]);omega)
 (try simp only [N] at TV);refine Ok.cond' (fun h6=>?_) (fun h6=>?_)
 ·(try simp only [B] at h6);refine Ok.some' ?_;(try simp only [N]);omega
 (try simp only [B] at h6);refine Ok.bind (zgk ?_) (fun r6 lW=>?_)
 ·(try simp only [N]);omega
 (try simp only [N] at lW);refine Ok.bind (LJ ?_) (fun r7 KW=>?_)
 ·(try simp only [N]);omega
 (try simp only [N] at KW);refine Ok.bind (PT ?_ ?_ ?_) (fun r8 xW=>?_)
 iterate 3 (·(try simp only [N]);omega)
 (try simp only [N] at xW);refine Ok.guard ?_ ?_
 ·(try simp only [N]);omega
 refine Ok.join (fun y9:(List G.Out) × (List G.Note) × G.Sess=>y9.1.length≤1∧wt y9.1≤400∧wt y9.2.1≤4000∧wt y9.2.2≤wt a0+3000) (fun y9 dY=>?_) (fun k10 XV=>?_)
 ·(try simp only [N] at dY);refine Ok.bind (zgn ?_ ?_) (fun r30 WZ=>?_)
  iterate 2 (·(try simp only [N]);omega)
  (try simp only [N] at WZ);refine Ok.bind (uL ?_ ?_) (fun r31 XZ=>?_)
  iterate 2 (·(try simp only [N]);omega)
  (try simp only [N] at XZ);refine Ok.joinR (fun y32:Bool=>True) (fun k33 oY=>?_) (fun y32 C1=>?_)
  ·refine Ok.cond' (fun h7=>?_) (fun h7=>?_)
   ·exact oY _ trivial
   exact oY _ trivial
  refine Ok.cond' (fun h8=>?_) (fun h8=>?_)
  ·refine Ok.some' ?_;(try simp only [N]);omega
  refine Ok.guard ?_ ?_
  ·(try simp only [N]);omega
  refine Ok.bind (MI ?_ ?_) (fun r34 YZ=>?_)
  iterate 2 (·(try simp only [N]);omega)
  (try simp only [N] at YZ);refine Ok.guard ?_ ?_
  ·(try simp only [N]);omega
  refine Ok.some' ?_;(try simp only [N]);omega
 refine Ok.cond' (fun h9=>?_) (fun h9=>?_)
 ·(try simp only [B] at h9);refine Ok.guard ?_ ?_
  ·(try simp only [N]);omega
  refine Ok.guard ?_ ?_
  ·(try simp only [N]);omega
  refine Ok.guard ?_ ?_
  ·(try simp only [N]);omega
  refine XV _ ?_;(try simp only [N]);omega
 (try simp only [B] at h9);refine Ok.join (fun y12:(List G.Out) × (List G.Note) × G.Sess=>y12.1.length≤1∧wt y12.1≤400∧wt y12.2.1≤4000∧wt y12.2.2≤wt a0+3000) (fun y12 OX=>?_) (fun k13 GW=>?_)
 ·(try simp only [N] at OX);refine XV _ ?_;(try simp only [N]);omega
 refine Ok.cond' (fun oW=>?_) (fun oW=>?_)
 ·(try simp only [B] at oW);refine Ok.bind (zsW ?_ ?_) (fun r14 OW=>?_)
  iterate 2 (·(try simp only [N]);omega)
  (try simp only [N] at OW);refine Ok.join (fun y15:(List G.Note) × G.Sess=>wt y15.1≤4000∧wt y15.2≤wt a0+3000) (fun y15 YY=>?_) (fun k16 KX=>?_)
  ·(try simp only [N] at YY);refine GW _ ?_;(try simp only [N]);omega
  refine Ok.condR (fun gW=>?_) (fun gW=>?_)
  ·(try simp only [B] at gW);refine KX _ ?_;(try simp only [N]);omega
  (try simp only [B] at gW);refine Ok.guard ?_ ?_
  ·(try simp only [N]);omega
  refine Ok.guard ?_ ?_
  ·(try simp only [N]);omega
  refine Ok.guard ?_ ?_
  ·(try simp only [N]);omega
  refine KX _ ?_;(try simp only [N]);omega
 (try simp only [B] at oW);refine Ok.join (fun y18:(List G.Out) × (List G.Note) × G.Sess=>y18.1.length≤1∧wt y18.1≤400∧wt y18.2.1≤4000∧wt y18.2.2≤wt a0+3000) (fun y18 XX=>?_) (fun k19 HW=>?_)
 ·(try simp only [N] at XX);refine GW _ ?_;(try simp only [N]);omega
 refine Ok.condR (fun FW=>?_) (fun FW=>?_)
 ·(try simp only [B] at FW);refine HW _ ?_;(try simp only [N]);omega
 (try simp only [B] at FW);refine Ok.bind (ztn ?_ ?_) (fun r20 wX=>?_)
 iterate 2 (·(try simp only [N]);omega)
 (try simp only [N] at wX);refine Ok.join (fun y21:(List G.Out) × (List G.Note) × G.Sess=>y21.1.length≤1∧wt y21.1≤400∧wt y21.2.1≤4000∧wt y21.2.2≤wt a0+3000) (fun y21 z0=>?_) (fun k22 KY=>?_)
 ·(try simp only [N] at z0);refine HW _ ?_;(try simp only [N]);omega
 refine Ok.condR (fun UW=>?_) (fun UW=>?_)
 ·(try simp only [B] at UW);refine KY _ ?_;(try simp only [N]);omega
 (try simp only [B] at UW);refine Ok.joinR (fun y23:(List G.Note)=>wt y23≤2000) (fun k24 zW=>?_) (fun y23 xX=>?_)
 ·refine Ok.condR (fun mX=>?_) (fun mX=>?_)
  ·(try simp only [B] at mX);refine zW _ ?_;(try simp only [N]);omega
  (try simp only [B] at mX);refine Ok.guard ?_ ?_
  ·(try simp only [N]);omega
  refine Ok.guard ?_ ?_
  ·(try simp only [N]);omega
  refine Ok.guard ?_ ?_
  ·(try simp only [N]);omega
  refine zW _ ?_;(try simp only [N]);omega
 (try simp only [N] at xX);refine Ok.bind (zf9 ?_) (fun r26 xY=>?_)
 ·(try simp only [N]);omega
 (try simp only [N] at xY);refine Ok.join (fun y27:(List G.Out) × (List G.Note) × G.Sess=>y27.1.length≤1∧wt y27.1≤400∧wt y27.2.1≤4000∧wt y27.2.2≤wt a0+3000) (fun y27 ZY=>?_) (fun k28 pX=>?_)
 ·(try simp only [N] at ZY);refine KY _ ?_;(try simp only [N]);omega
 refine Ok.condR (fun yX=>?_) (fun yX=>?_)
 ·(try simp only [B] at yX);refine pX _ ?_;(try simp only [N]);omega
 (try simp only [B] at yX);refine Ok.guard ?_ ?_
 ·(try simp only [N]);omega
 refine Ok.bind (MI ?_ ?_) (fun r29 yY=>?_)
 iterate 2 (·(try simp only [N]);omega)
 (try simp only [N] at yY);refine Ok.guard ?_ ?_
 ·(try simp only [N]);omega
 refine pX _ ?_;(try simp only [N]);omega
theorem zgH {a0:G.Sess} (ha:wt a0≤1000000000):Ok (kP.raw a0) fun r=>wt r≤wt a0:=by
 (try simp only [N] at ha);have hL:=qA
 unfold kP.raw
 refine Ok.guard ?_ ?_
 ·(try simp only [N]);omega
 refine Ok.some' ?_;(try simp only [N]);omega
theorem ztN {a0:G.Tab} {a1:Int} (ha:wt a0≤1000000000):Ok (NT.raw a0 a1) fun r=>wt r≤wt a0+60000:=by
 (try simp only [N] at ha);have hL:=qA;have hw:=CB a0.L;(try simp only [N] at hw)
 unfold NT.raw
 refine Ok.joinR (fun y1:Bool=>y1=false→wt a0≤2832∧a0.L.length≤12) (fun k2 NV=>?_) (fun y1 UV=>?_)
 ·refine Ok.bind (zgU ?_) (fun r3 YV=>?_)
  ·(try simp only [N]);omega
  refine Ok.cond' (fun h1=>?_) (fun h1=>?_)
  ·exact NV _ fun h=>nomatch h
  (try simp only [B] at h1);replace YV:=YV h1;(try simp only [N] at YV);refine NV _ fun q2=>?_;(try simp only [B] at q2);(try simp only [N]);omega
 refine Ok.cond' (fun h3=>?_) (fun h3=>?_)
 ·refine Ok.same (XA ?_) ?_
  ·(try simp only [N]);omega
  refine Ok.some' ?_;(try simp only [N]);omega
 replace UV:=UV h3;(try simp only [N] at UV);refine Ok.join (fun y5:G.Tab=>wt y5≤60000) (fun y5 AZ=>?_) (fun k6 kX=>?_)
 ·(try simp only [N] at AZ);refine Ok.some' ?_;(try simp only [N]);omega
 refine Ok.loopR (fun x7:Int × G.Tab=>0≤x7.1∧x7.1≤(a0.L.length:Int)∧wt x7.2≤4500 *x7.1) (fun x7=>((a0.L.length:Int) - x7.1).toNat) ?_ ?_ (fun x7 hx7 k8 AX=>?_)
 iterate 2 (·(try simp only [N]);omega)
 (try simp only [N] at hx7);refine Ok.condR (fun h4=>?_) (fun h4=>?_)
 ·(try simp only [B] at h4);refine kX _ ?_;(try simp only [N]);omega
 (try simp only [B] at h4);refine Ok.bind (Ok.idx ?_ ?_) (fun e9 MZ=>?_)
 iterate 2 (·(try simp only [N]);omega)
 have UX:=wA MZ;(try simp only [N] at UX);refine Ok.bind (ztG ?_) (fun r10 BW=>?_)
 ·(try simp only [N]);omega
 (try simp only [N] at BW);refine Ok.joinR (fun y11:Bool=>True) (fun k12 wW=>?_) (fun y11 iX=>?_)
 ·refine Ok.cond' (fun h5=>?_) (fun h5=>?_)
  ·exact wW _ trivial
  exact wW _ trivial
 refine Ok.join (fun y13:G.Tab=>wt y13≤4500 *x7.1+4500) (fun y13 RW=>?_) (fun k14 ZV=>?_)
 ·(try simp only [N] at RW);refine AX _ ?_ ?_
  iterate 2 (·(try have:=zA (a:=x7.1) (b:=1) (by omega) (by omega));(try simp only [N]);omega)
 refine Ok.condR (fun h6=>?_) (fun h6=>?_)
 ·refine ZV _ ?_;(try simp only [N]);omega
 refine Ok.guard ?_ ?_
 ·(try simp only [N]);omega
 refine ZV _ ?_;(try simp only [N]);omega
theorem ztA {a0:G.Server} {a1:Int} {a2:Int} {a3:List UInt8} (ha:wt a0≤1000000000) (hb:wt a3≤1000000000):Ok (DT.raw a0 a1 a2 a3) fun r=>wt r.1≤wt a0+4000∧r.2.1.length≤1∧wt r.2.1≤400∧wt r.2.2.1≤2000:=by
 (try simp only [N] at ha);(try simp only [N] at hb);have hL:=qA;have hw:=CB a0.T.L;(try simp only [N] at hw)
 unfold DT.raw
 refine Ok.same (XA ?_) ?_
 ·(try simp only [N]);omega
 refine Ok.joinR (fun y2:Bool=>y2=false→SF a0) (fun k3 PV=>?_) (fun y2 WV=>?_)
 ·refine Ok.bind (nO ?_) (fun r4 SV=>?_)
  ·(try simp only [N]);omega
  refine Ok.cond' (fun h1=>?_) (fun h1=>?_)
  ·exact PV _ fun h=>nomatch h
  (try simp only [B] at h1);replace SV:=SV h1;(try simp only [N] at SV);refine PV _ fun q2=>?_;(try simp only [B] at q2);(try simp only [N]);omega
 refine Ok.cond' (fun h3=>?_) (fun h3=>?_)
 ·refine Ok.some' ?_;(try simp only [N]);omega
 replace WV:=WV h3;(try simp only [N] at WV);refine Ok.cond' (fun h4=>?_) (fun h4=>?_)
 ·(try simp only [B] at h4);(try have:=PA (a:=(a0.T.L.length:Int)) (b:=1) (by omega) (by omega));refine Ok.some' ?_;(try simp only [N]);omega
 (try simp only [B] at h4);(try have:=PA (a:=(a0.T.L.length:Int)) (b:=1) (by omega) (by omega));refine Ok.bind (Ok.idx ?_ ?_) (fun e6 FZ=>?_)
 iterate 2 (·(try simp only [N]);omega)
 have CX:=wA FZ;(try simp only [N] at CX);refine Ok.bind (ztF ?_ ?_) (fun r7 KW=>?_)
 iterate 2 (·(try simp only [N]);omega)
 (try simp only [N] at KW);refine Ok.join (fun y8:G.Server=>wt y8≤wt a0+4000) (fun y8 s4=>?_) (fun k9 LX=>?_)
 ·(try simp only [N] at s4);refine Ok.some' ?_;(try simp only [N]);omega
 refine Ok.condR (fun h5=>?_) (fun h5=>?_)
 ·(try simp only [B] at h5);refine LX _ ?_;(try simp only [N]);omega
 (try simp only [B] at h5);refine Ok.chk ?_ ?_
 ·(try simp only [B]);omega
 refine Ok.bind (Ok.get ?_) (fun e10 BX=>?_)
 ·(try simp only [N]);omega
 have NW:=wA BX;(try simp only [N] at NW);refine LX _ ?_;have:=EB a0.T.L a2.toNat r7.1;(try simp only [N] at this);(try simp only [N]);omega
theorem ztB {a0:G.Server} {a1:Int} (ha:wt a0≤1000000000):Ok (ET.raw a0 a1) fun r=>wt r.1≤wt a0+60000∧wt r.2≤50000:=by
 (try simp only [N] at ha);have hL:=qA;have hw:=CB a0.T.L;(try simp only [N] at hw)
 unfold ET.raw
 refine Ok.same (XA ?_) ?_
 ·(try simp only [N]);omega
 refine Ok.joinR (fun y2:Bool=>y2=false→SF a0) (fun k3 PV=>?_) (fun y2 WV=>?_)
 ·refine Ok.bind (nO ?_) (fun r4 SV=>?_)
  ·(try simp only [N]);omega
  refine Ok.cond' (fun h1=>?_) (fun h1=>?_)
  ·exact PV _ fun h=>nomatch h
  (try simp only [B] at h1);replace SV:=SV h1;(try simp only [N] at SV);refine PV _ fun q2=>?_;(try simp only [B] at q2);(try simp only [N]);omega
 refine Ok.cond' (fun h3=>?_) (fun h3=>?_)
 ·refine Ok.some' ?_;(try simp only [N]);omega
 replace WV:=WV h3;(try simp only [N] at WV);refine Ok.bind (ztN ?_) (fun r5 TV=>?_)
 ·(try simp only [N]);omega
 (try simp only [N] at TV);refine Ok.join (fun y6:(List G.Note)=>wt y6≤50000) (fun y6 WW=>?_) (fun k7 fW=>?_)
 ·(try simp only [N] at WW);refine Ok.some' ?_;(try simp only [N]);omega
 refine Ok.loopR (fun x8:(List G.Note) × Int=>0≤x8.2∧x8.2≤(a0.T.L.length:Int)∧wt x8.1≤3400 *x8.2) (fun x8=>((a0.T.L.length:Int) - x8.2).toNat) ?_ ?_ (fun x8 P3 k9 LX=>?_)
 iterate 2 (·(try simp only [N]);omega)
 (try simp only [N] at P3);refine Ok.condR (fun h4=>?_) (fun h4=>?_)
 ·(try simp only [B] at h4);refine fW _ ?_;(try simp only [N]);omega
 (try simp only [B] at h4);refine Ok.bind (Ok.idx ?_ ?_) (fun e10 BX=>?_)
 iterate 2 (·(try simp only [N]);omega)
 have NW:=wA BX;(try simp only [N] at NW);refine Ok.bind (cR ?_) (fun r11 vW=>?_)
 ·(try simp only [N]);omega
 (try simp only [N] at vW);refine Ok.joinR (fun y12:Bool=>True) (fun k13 GW=>?_) (fun y12 OX=>?_)
 ·refine Ok.bind (Ok.idx ?_ ?_) (fun e14 JZ=>?_)
  iterate 2 (·(try simp only [N]);omega)
  have jY:=wA JZ;(try simp only [N] at jY);refine Ok.condR (fun h5=>?_) (fun h5=>?_)
  ·exact GW _ trivial
  (try simp only [B] at h5);refine Ok.cond' (fun h6=>?_) (fun h6=>?_)
  ·exact GW _ trivial
  (try simp only [B] at h6);refine Ok.chk ?_ ?_
  ·(try simp only [B]);omega
  refine Ok.bind (Ok.get ?_) (fun e15 kY=>?_)
  ·(try simp only [N]);omega
  have IX:=wA kY;(try simp only [N] at IX);exact GW _ trivial
 refine Ok.join (fun y16:(List G.Note)=>wt y16≤3400 *x8.2+3400) (fun y16 XW=>?_) (fun k17 pW=>?_)
 ·(try simp only [N] at XW);refine LX _ ?_ ?_
  iterate 2 (·(try have:=zA (a:=x8.2) (b:=1) (by omega) (by omega));(try simp only);omega)
 refine Ok.condR (fun h7=>?_) (fun h7=>?_)
 ·refine pW _ ?_;(try simp only [N]);omega
 refine Ok.bind (Ok.idx ?_ ?_) (fun e18 FY=>?_)
 iterate 2 (·(try simp only [N]);omega)
 have JX:=wA FY;(try simp only [N] at JX);refine Ok.bind (zgH ?_) (fun r19 fX=>?_)
 ·(try simp only [N]);omega
 (try simp only [N] at fX);refine Ok.guard ?_ ?_
 ·(try simp only [N]);omega
 refine pW _ ?_;(try simp only [N]);omega
theorem zul {a0:G.Server} {a1:List G.Out} (ha:wt a0≤1000000000) (hb:wt a1≤3000) (hc:a1.length≤3):Ok (vU.raw a0 a1) fun r=>r.1.length≤3∧wt r.1≤9100∧wt r.2≤wt a0:=by
 (try simp only [N] at ha);(try simp only [N] at hb);(try simp only [N] at hc);have hL:=qA
 unfold vU.raw
 refine Ok.join (fun y1:(List G.Out) × G.Server=>y1.1.length≤3∧wt y1.1≤9100∧wt y1.2≤wt a0) (fun y1 UV=>?_) (fun k2 NV=>?_)
 ·(try simp only [N] at UV);refine Ok.some' ?_;(try simp only [N]);omega
 refine Ok.loopR (fun x3:(List G.Out) × Int × G.Server=>0≤x3.2.1∧x3.2.1≤(a1.length:Int)∧(x3.1.length:Int)≤x3.2.1∧wt x3.1≤3001 *x3.2.1∧wt x3.2.2≤wt a0) (fun x3=>((a1.length:Int) - x3.2.1).toNat) ?_ ?_ (fun x3 XY k4 bW=>?_)
 iterate 2 (·(try simp only [N]);omega)
 (try simp only [N] at XY);refine Ok.condR (fun h1=>?_) (fun h1=>?_)
 ·(try simp only [B] at h1);refine NV _ ?_;(try simp only [N]);omega
 (try simp only [B] at h1);refine Ok.join (fun y5:(List G.Out) × G.Server=>(y5.1.length:Int)≤x3.2.1+1∧wt y5.1≤3001 *x3.2.1+3001∧wt y5.2≤wt a0) (fun y5 AZ=>?_) (fun k6 kX=>?_)
 ·(try simp only [N] at AZ);refine bW _ ?_ ?_
  iterate 2 (·(try have:=zA (a:=x3.2.1) (b:=1) (by omega) (by omega));(try simp only [N]);omega)
 refine Ok.bind (Ok.idx ?_ ?_) (fun e7 H0=>?_)
 iterate 2 (·(try simp only [N]);omega)
 have TX:=wA H0;(try simp only [N] at TX);refine Ok.bind (zgb ?_) (fun r8 xW=>?_)
 ·(try simp only [N]);omega
 refine Ok.join (fun y9:G.Server=>wt y9≤wt a0) (fun y9 dY=>?_) (fun k10 XV=>?_)
 ·(try simp only [N] at dY);refine Ok.bind (Ok.idx ?_ ?_) (fun e15 kY=>?_)
  iterate 2 (·(try simp only [N]);omega)
  have IX:=wA kY;(try simp only [N] at IX);refine Ok.guard ?_ ?_
  ·(try simp only [N]);omega
  refine kX _ ?_;(try simp only [N]);omega
 refine Ok.condR (fun h2=>?_) (fun h2=>?_)
 ·(try simp only [B] at h2);refine XV _ ?_;(try simp only [N]);omega
 (try simp only [B] at h2);refine Ok.bind (Ok.idx ?_ ?_) (fun e11 P5=>?_)
 iterate 2 (·(try simp only [N]);omega)
 have T1:=wA P5;(try simp only [N] at T1);refine Ok.bind (Ok.idx ?_ ?_) (fun e12 Q5=>?_)
 iterate 2 (·(try simp only [N]);omega)
 have U1:=wA Q5;(try simp only [N] at U1);refine Ok.bind (ztJ ?_) (fun r13 IW=>?_)
 ·(try simp only [N]);omega
 refine Ok.bind (zgt ?_) (fun r14 OW=>?_)
 ·(try simp only [N]);omega
 (try simp only [N] at OW);refine Ok.cond' (fun h3=>?_) (fun h3=>?_)
 ·(try simp only [B] at h3);refine kX _ ?_;(try simp only [N]);omega
 (try simp only [B] at h3);refine XV _ ?_;(try simp only [N]);omega
theorem zsZ {a0:G.Server} (ha:wt a0≤1000000000):Ok (OS.raw a0) fun r=>wt r.1≤wt a0+100∧wt r.2≤200:=by
 (try simp only [N] at ha);have hL:=qA
 unfold OS.raw
 refine Ok.same (XA ?_) ?_
 ·(try simp only [N]);omega
 refine Ok.joinR (fun y2:Bool=>y2=false→SF a0) (fun k3 PV=>?_) (fun y2 WV=>?_)
 ·refine Ok.bind (nO ?_) (fun r4 SV=>?_)
  ·(try simp only [N]);omega
  refine Ok.cond' (fun h1=>?_) (fun h1=>?_)
  ·exact PV _ fun h=>nomatch h
  (try simp only [B] at h1);replace SV:=SV h1;(try simp only [N] at SV);refine PV _ fun q2=>?_;(try simp only [B] at q2);(try simp only [N]);omega
 refine Ok.cond' (fun h3=>?_) (fun h3=>?_)
 ·refine Ok.some' ?_;(try simp only [N]);omega
 replace WV:=WV h3;(try simp only [N] at WV);refine Ok.bind (xS ?_) (fun r5 TV=>?_)
 ·(try simp only [N]);omega
 (try simp only [N] at TV);have hj:=QN r5.2;(try simp only [N] at hj);have ht:=zb8 a0.T.Cap;(try simp only [N] at ht)
 have hn:wt (BE r5.2)=wt r5.2:=by simp only [BE,AG,PD,LA,List.length_nil];omega
 (try simp only [N] at hn);refine Ok.same (kS ?_) ?_
 ·(try simp only [N]);omega
 refine Ok.guard ?_ ?_
 ·(try simp only [N]);omega
 refine Ok.some' ?_;(try simp only [N]);omega
theorem zty {a0:G.Server} {a1:Int} (ha:wt a0≤1000000000):Ok (AT.raw a0 a1) fun r=>wt r.1≤wt a0+4000∧wt r.2.1≤4000:=by
 (try simp only [N] at ha);have hL:=qA;have hw:=CB a0.T.L;(try simp only [N] at hw)
 unfold AT.raw
 refine Ok.same (XA ?_) ?_
 ·(try simp only [N]);omega
 refine Ok.bind (nO ?_) (fun r2 VV=>?_)
 ·(try simp only [N]);omega
 refine Ok.cond' (fun h1=>?_) (fun h1=>?_)
 ·(try simp only [B] at h1);refine Ok.some' ?_;(try simp only [N]);omega
 (try simp only [B] at h1);replace VV:=VV h1;(try simp only [N] at VV);refine Ok.joinR (fun y3:Bool=>y3=false→0≤a1∧a1<(a0.T.L.length:Int)) (fun k4 bW=>?_) (fun y3 cX=>?_)
 ·refine Ok.cond' (fun h2=>?_) (fun h2=>?_)
  ·exact bW _ fun h=>nomatch h
  (try simp only [B] at h2);(try have:=PA (a:=(a0.T.L.length:Int)) (b:=1) (by omega) (by omega));refine Ok.bind (Ok.idx ?_ ?_) (fun e6 FZ=>?_)
  iterate 2 (·(try simp only [N]);omega)
  have CX:=wA FZ;(try simp only [N] at CX);refine bW _ fun q3=>?_;(try simp only [B] at q3);(try simp only [N]);omega
 refine Ok.cond' (fun h4=>?_) (fun h4=>?_)
 ·refine Ok.some' ?_;(try simp only [N]);omega
 replace cX:=cX h4;(try simp only [N] at cX);refine Ok.bind (Ok.idx ?_ ?_) (fun e7 H0=>?_)
 iterate 2 (·(try simp only [N]);omega)
 have TX:=wA H0;(try simp only [N] at TX);refine Ok.bind (qL ?_) (fun r8 xW=>?_)
 ·(try simp only [N]);omega
 (try simp only [N] at xW);refine Ok.chk ?_ ?_
 ·(try simp only [B]);omega
 refine Ok.bind (Ok.get ?_) (fun e9 MZ=>?_)
 ·(try simp only [N]);omega
 have UX:=wA MZ;(try simp only [N] at UX);refine Ok.bind (Ok.idx ?_ ?_) (fun e10 BX=>?_)
 iterate 2 (·(try simp only [N]);omega)
 have NW:=wA BX;(try simp only [N] at NW);refine Ok.bind (zgH ?_) (fun r11 vW=>?_)
 ·(try simp only [N]);omega
 (try simp only [N] at vW);refine Ok.some' ?_;have:=EB a0.T.L a1.toNat r8;(try simp only [N] at this);(try simp only [N]);omega
theorem ztz {a0:G.Server} {a1:Int} {a2:G.Addr} {a3:List UInt8} (ha:wt a0≤1000000000) (hb:wt a3≤900000000):Ok (BT.raw a0 a1 a2 a3) fun r=>wt r.1≤wt a0+50000∧r.2.1.length≤3∧wt r.2.1≤9100∧wt r.2.2≤20000:=by
 (try simp only [N] at ha);(try simp only [N] at hb);have hL:=qA
 unfold BT.raw
 refine Ok.same (XA ?_) ?_
 ·(try simp only [N]);omega
 refine Ok.joinR (fun y2:Bool=>y2=false→SF a0) (fun k3 PV=>?_) (fun y2 WV=>?_)
 ·refine Ok.bind (nO ?_) (fun r4 SV=>?_)
  ·(try simp only [N]);omega
  refine Ok.cond' (fun h1=>?_) (fun h1=>?_)
  ·exact PV _ fun h=>nomatch h
  (try simp only [B] at h1);replace SV:=SV h1;(try simp only [N] at SV);refine Ok.cond' (fun h2=>?_) (fun h2=>?_)
  ·exact PV _ fun h=>nomatch h
  (try simp only [B] at h2);refine PV _ fun q3=>?_;(try simp only [B] at q3);have f4:=XH q3;(try simp only [N] at f4);(try simp only [N]);omega
 refine Ok.cond' (fun h5=>?_) (fun h5=>?_)
 ·refine Ok.some' ?_;(try simp only [N]);omega
 replace WV:=WV h5;(try simp only [N] at WV);refine Ok.bind (zgi ?_) (fun r5 TV=>?_)
 ·(try simp only [N]);omega
 (try simp only [N] at TV);refine Ok.bind (zgj ?_) (fun r6 lW=>?_)
 ·(try simp only [N]);omega
 (try simp only [N] at lW);refine Ok.cond' (fun h6=>?_) (fun h6=>?_)
 ·(try simp only [B] at h6);refine Ok.some' ?_;(try simp only [N]);omega
 (try simp only [B] at h6);refine Ok.join (fun y7:(List G.Out) × (List G.Note) × G.Server × G.Server=>y7.1.length≤3∧wt y7.1≤2000∧wt y7.2.1≤20000∧wt y7.2.2.1≤wt a0+50000) (fun y7 BZ=>?_) (fun k8 AX=>?_)
 ·(try simp only [N] at BZ);refine Ok.bind (zul ?_ ?_ ?_) (fun r65 X6=>?_)
  iterate 3 (·(try simp only [N]);omega)
  (try simp only [N] at X6);refine Ok.some' ?_;(try simp only [N]);omega
 refine Ok.cond' (fun h7=>?_) (fun h7=>?_)
 ·(try simp only [B] at h7);refine Ok.joinR (fun y9:Bool=>True) (fun k10 XV=>?_) (fun y9 dY=>?_)
  ·refine Ok.cond' (fun h8=>?_) (fun h8=>?_)
   ·exact XV _ trivial
   (try simp only [B] at h8);refine Ok.bind (zgl ?_) (fun r11 vW=>?_)
   ·(try simp only [N]);omega
   refine Ok.cond' (fun h9=>?_) (fun h9=>?_)
   ·exact XV _ trivial
   exact XV _ trivial
  refine Ok.cond' (fun oW=>?_) (fun oW=>?_)
  ·refine Ok.some' ?_;(try simp only [N]);omega
  refine Ok.bind (xS ?_) (fun r12 aW=>?_)
  ·(try simp only [N]);omega
  (try simp only [N] at aW)
  have hn:wt (BE r12.2)=wt r12.2:=by simp only [BE,AG,PD,LA,List.length_nil];omega
  (try simp only [N] at hn);refine Ok.guard ?_ ?_
  ·(try simp only [N]);omega
  refine Ok.bind (zgm ?_ ?_) (fun r13 IW=>?_)
  iterate 2 (·(try simp only [N]);omega)
  (try simp only [N] at IW);refine Ok.same (kS ?_) ?_
  ·(try simp only [N]);omega
  refine Ok.bind (zbU ?_ ?_) (fun r15 tW=>?_)
  iterate 2 (·(try simp only [N]);omega)
  (try simp only [N] at tW);refine Ok.bind (zbT ?_ ?_) (fun r16 qX=>?_)
  iterate 2 (·(try simp only [N]);omega)
  (try simp only [N] at qX);refine Ok.guard ?_ ?_
  ·(try simp only [N]);omega
  refine Ok.guard ?_ ?_
  ·(try simp only [N]);omega
  refine AX _ ?_;(try simp only [N]);omega
 (try simp only [B] at h7);refine Ok.join (fun y18:(List G.Out) × (List G.Note) × G.Server × G.Server=>y18.1.length≤3∧wt y18.1≤2000∧wt y18.2.1≤20000∧wt y18.2.2.2≤wt a0+50000) (fun y18 XX=>?_) (fun k19 HW=>?_)
 ·(try simp only [N] at XX);refine AX _ ?_;(try simp only [N]);omega
 refine Ok.condR (fun gW=>?_) (fun gW=>?_)
 ·(try simp only [B] at gW);refine Ok.join (fun y46:(List G.Out) × (List G.Note) × G.Server × G.Server=>y46.1.length≤3∧wt y46.1≤2000∧wt y46.2.1≤20000∧wt y46.2.2.2≤wt a0+50000) (fun y46 B7=>?_) (fun k47 Z2=>?_)
  ·(try simp only [N] at B7);refine HW _ ?_;(try simp only [N]);omega
  refine Ok.condR (fun FW=>?_) (fun FW=>?_)
  ·(try simp only [B] at FW);refine Z2 _ ?_;(try simp only [N]);omega
  (try simp only [B] at FW);refine Ok.bind (cR ?_) (fun r48 T6=>?_)
  ·(try simp only [N]);omega
  (try simp only [N] at T6);refine Ok.joinR (fun y49:Bool=>y49=false→0≤r48) (fun k50 d3=>?_) (fun y49 X3=>?_)
  ·refine Ok.cond' (fun UW=>?_) (fun UW=>?_)
   ·exact d3 _ fun h=>nomatch h
   (try simp only [B] at UW);refine Ok.bind (Ok.idx ?_ ?_) (fun e51 he51=>?_)
   iterate 2 (·(try simp only [N]);omega)
   have G8:=wA he51;(try simp only [N] at G8);refine d3 _ fun q14=>?_;(try simp only [B] at q14);(try simp only [N]);omega
  refine Ok.cond' (fun yX=>?_) (fun yX=>?_)
  ·refine Ok.some' ?_;(try simp only [N]);omega
  replace X3:=X3 yX;(try simp only [N] at X3);refine Ok.bind (xS ?_) (fun r52 U6=>?_)
  ·(try simp only [N]);omega
  (try simp only [N] at U6);refine Ok.bind (zgl ?_) (fun r53 hr53=>?_)
  ·(try simp only [N]);omega
  refine Ok.joinR (fun y54:(List UInt8)=>y54.length≤32) (fun k55 v3=>?_) (fun y54 E7=>?_)
  ·refine Ok.cond' (fun PX=>?_) (fun PX=>?_)
   ·(try simp only [B] at PX);refine v3 _ ?_;(try simp only [N]);omega
   (try simp only [B] at PX);refine v3 _ ?_;(try simp only [N]);omega
  (try simp only [N] at E7)
  have hn:wt (BE y54)=wt y54:=by simp only [BE,AG,PD,LA,List.length_nil];omega
  (try simp only [N] at hn);refine Ok.bind (Ok.idx ?_ ?_) (fun e56 I2=>?_)
  iterate 2 (·(try simp only [N]);omega)
  have kZ:=wA I2;(try simp only [N] at kZ);refine Ok.bind (ztD ?_ ?_ ?_) (fun r57 hr57=>?_)
  iterate 3 (·(try simp only [N]);omega)
  (try simp only [N] at hr57);refine Ok.chk ?_ ?_
  ·(try simp only [B]);omega
  refine Ok.bind (Ok.get ?_) (fun e58 m6=>?_)
  ·(try simp only [N]);omega
  have L2:=wA m6;(try simp only [N] at L2);refine Ok.guard ?_ ?_
  ·(try simp only [N]);omega
  refine Ok.joinR (fun y59:(List G.Note) × G.Server=>wt y59.1≤200∧wt y59.2≤wt a0+40000) (fun k60 z3=>?_) (fun y59 F7=>?_)
  ·refine Ok.condR (fun SX=>?_) (fun SX=>?_)
   ·(try simp only [B] at SX);refine z3 _ ?_;have:=EB a0.T.L r48.toNat r57.1;(try simp only [N] at this);(try simp only [N]);omega
   (try simp only [B] at SX);refine Ok.same (kS ?_) ?_
   ·(try simp only [N]);omega
   refine Ok.guard ?_ ?_
   ·(try simp only [N]);omega
   refine z3 _ ?_;have:=EB a0.T.L r48.toNat r57.1;(try simp only [N] at this);(try simp only [N]);omega
  (try simp only [N] at F7);refine Ok.guard ?_ ?_
  ·(try simp only [N]);omega
  refine Ok.join (fun y62:(List G.Note)=>wt y62≤20000) (fun y62 hy62=>?_) (fun k63 z9=>?_)
  ·(try simp only [N] at hy62);refine Z2 _ ?_;(try simp only [N]);omega
  refine Ok.condR (fun fZ=>?_) (fun fZ=>?_)
  ·(try simp only [B] at fZ);refine z9 _ ?_;(try simp only [N]);omega
  (try simp only [B] at fZ);refine Ok.guard ?_ ?_
  ·(try simp only [N]);omega
  refine Ok.guard ?_ ?_
  ·(try simp only [N]);omega
  refine Ok.guard ?_ ?_
  ·(try simp only [N]);omega
  refine z9 _ ?_;(try simp only [N]);omega
 (try simp only [B] at gW);refine Ok.joinR (fun y20:Bool=>y20=false→1≤r6.1.Id∧r6.1.Id≤(a0.Psks.length:Int)) (fun k21 sW=>?_) (fun y20 bX=>?_)
 ·refine Ok.bind (ztp ?_) (fun r22 PW=>?_)
  ·(try simp only [N]);omega
  (try simp only [N] at PW);refine Ok.cond' (fun CZ=>?_) (fun CZ=>?_)
  ·exact sW _ fun h=>nomatch h
  (try simp only [B] at CZ);refine Ok.cond' (fun gZ=>?_) (fun gZ=>?_)
  ·exact sW _ fun h=>nomatch h
  (try simp only [B] at gZ);refine Ok.bind (Ok.idx ?_ ?_) (fun e23 S5=>?_)
  iterate 2 (·(try have:=PA (a:=r6.1.Id) (b:=1) (by omega) (by omega));(try simp only [N]);omega)
  have V1:=wA S5;(try simp only [N] at V1);refine Ok.bind (ztt ?_) (fun r24 wY=>?_)
  ·(try simp only [N]);omega
  refine sW _ fun q21=>?_;(try simp only [B] at q21);(try simp only [N]);omega
 refine Ok.cond' (fun HZ=>?_) (fun HZ=>?_)
 ·refine Ok.some' ?_;(try simp only [N]);omega
 replace bX:=bX HZ;(try simp only [N] at bX);refine Ok.bind (cR ?_) (fun r25 QW=>?_)
 ·(try simp only [N]);omega
 (try simp only [N] at QW);refine Ok.join (fun y26:(List G.Note) × Int × G.Server × G.Server=>wt y26.1≤8000∧wt y26.2.2.2≤wt a0+10000∧0≤y26.2.1∧y26.2.1<(y26.2.2.2.T.L.length:Int)) (fun y26 DY=>?_) (fun k27 oX=>?_)
 ·(try simp only [N] at DY);refine Ok.chk ?_ ?_
  ·(try simp only [B]);omega
  refine Ok.bind (Ok.get ?_) (fun e38 G4=>?_)
  ·(try simp only [N]);omega
  have A2:=wA G4;(try simp only [N] at A2);refine Ok.joinR (fun y39:Bool=>True) (fun k40 V0=>?_) (fun y39 hy39=>?_)
  ·refine Ok.condR (fun aZ=>?_) (fun aZ=>?_)
   ·exact V0 _ trivial
   (try simp only [B] at aZ);refine Ok.condR (fun DZ=>?_) (fun DZ=>?_)
   ·exact V0 _ trivial
   (try simp only [B] at DZ);refine Ok.bind (kO ?_) (fun r41 j0=>?_)
   ·(try simp only [N]);omega
   (try simp only [N] at j0);exact V0 _ trivial
  refine Ok.join (fun y42:(List G.Out) × (List G.Note) × G.Server=>y42.1.length≤3∧wt y42.1≤1000∧wt y42.2.1≤15000∧wt y42.2.2≤wt a0+40000) (fun y42 W3=>?_) (fun k43 sZ=>?_)
  ·(try simp only [N] at W3);refine HW _ ?_;(try simp only [N]);omega
  refine Ok.condR (fun N1=>?_) (fun N1=>?_)
  ·refine sZ _ ?_;(try simp only [N]);omega
  refine Ok.bind (ztC ?_) (fun r44 S6=>?_)
  ·(try simp only [N]);omega
  (try simp only [N] at S6);refine Ok.chk ?_ ?_
  ·(try simp only [B]);omega
  refine Ok.bind (Ok.get ?_) (fun e45 Y5=>?_)
  ·(try simp only [N]);omega
  have D2:=wA Y5;(try simp only [N] at D2);refine Ok.guard ?_ ?_
  ·(try simp only [N]);omega
  refine Ok.guard ?_ ?_
  ·(try simp only [N]);omega
  refine sZ _ ?_;have:=EB y26.2.2.2.T.L y26.2.1.toNat r44.1;(try simp only [N] at this);(try simp only [N]);omega
 refine Ok.condR (fun Q0=>?_) (fun Q0=>?_)
 ·(try simp only [B] at Q0);refine oX _ ?_;(try simp only [N]);omega
 (try simp only [B] at Q0);refine Ok.bind (Ok.idx ?_ ?_) (fun e28 U5=>?_)
 iterate 2 (·(try have:=PA (a:=r6.1.Id) (b:=1) (by omega) (by omega));(try simp only [N]);omega)
 have X1:=wA U5;(try simp only [N] at X1);refine Ok.bind (zgs ?_) (fun r29 yY=>?_)
 ·(try simp only [N]);omega
 (try simp only [N] at yY);refine Ok.bind (zbO ?_ ?_) (fun r30 WZ=>?_)
 iterate 2 (·(try simp only [N]);omega)
 (try simp only [N] at WZ);have hl:=CB r30.1.L;(try simp only [N] at hl);refine Ok.cond' (fun S0=>?_) (fun S0=>?_)
 ·(try simp only [B] at S0);refine Ok.some' ?_;(try simp only [N]);omega
 (try simp only [B] at S0);refine Ok.bind (zbU ?_ ?_) (fun r31 XZ=>?_)
 iterate 2 (·(try simp only [N]);omega)
 (try simp only [N] at XZ);refine Ok.bind (PT ?_ ?_ ?_) (fun r32 R6=>?_)
 iterate 3 (·(try simp only [N]);omega)
 (try simp only [N] at R6);refine Ok.guard ?_ ?_
 ·(try simp only [N]);omega
 refine Ok.bind (Ok.idx ?_ ?_) (fun e33 he33=>?_)
 iterate 2 (·(try have:=PA (a:=r6.1.Id) (b:=1) (by omega) (by omega));(try simp only [N]);omega)
 have v8:=wA he33;(try simp only [N] at v8);refine Ok.bind (zbS) (fun r34 YZ=>?_);(try simp only [N] at YZ);refine Ok.bind (zbW ?_ ?_ ?_) (fun r35 hr35=>?_)
 iterate 3 (·(try simp only [N]);omega)
 (try simp only [N] at hr35);refine Ok.bind (PT ?_ ?_ ?_) (fun r36 yZ=>?_)
 iterate 3 (·(try simp only [N]);omega)
 (try simp only [N] at yZ);refine Ok.guard ?_ ?_
 ·(try simp only [N]);omega
 refine Ok.guard ?_ ?_
 ·(try simp only [N]);omega
 refine Ok.guard ?_ ?_
 ·(try simp only [N]);omega
 refine Ok.guard ?_ ?_
 ·(try simp only [N]);omega
 refine Ok.guard ?_ ?_
 ·(try simp only [N]);omega
 refine oX _ ?_;(try have:=PA (a:=(r30.1.L.length:Int)) (b:=1) (by omega) (by omega));(try simp only [N]);omega
end Go.D
namespace Go.D
def zci {α:Type} [Wt α] (l:List α) (i:Nat):Nat:=match l[i]? with
 | some c=>wt c
 | none=>0
theorem ZJ {α:Type} [Wt α] {l:List α} {i:Nat} {x:α} (h:l[i]?=some x):zci l i=wt x:=by unfold zci;rw [h]
theorem MM {α:Type} [Wt α] {x y:α}:∀ {l:List α} {i:Nat},l[i]?=some y→wt (l.set i x)+wt y=wt l+wt x
 | [],_,h=>by simp at h
 | z :: l,0,h=>by
  rw [List.getElem?_cons_zero] at h
  cases h
  rw [List.set_cons_zero,fD,fD];omega
 | z :: l,i+1,h=>by
  rw [List.getElem?_cons_succ] at h
  have:=MM (x:=x) h
  rw [List.set_cons_succ,fD,fD];omega
theorem zpO {e:G.Event} (h:nJ e=true):1≤e.Kind∧e.Kind≤17∧0≤e.I∧0≤e.J∧0≤e.N∧e.B.length≤200∧e.Ops.length≤16:=by
 simp only [nJ,Bool.and_eq_true,GD,decide_eq_true_eq] at h
 omega
theorem zuc {c:G.Cur} (h:jA c):Ok (mU.raw c) fun r=>jA r.2:=by
 unfold mU.raw
 exact (zbf h (by simp)).bind fun q hq=> .some' hq.2
theorem zsQ {s a b:List UInt8} {m:Int} (hs:1≤s.length∧s.length≤32) (ha:1≤a.length∧a.length≤32) (hb:1≤b.length∧b.length≤32) (hm:1≤m∧m≤6):cD (QB [a,b] s m)=true:=by
 have e0:iA (s.length:Int) 1 32=true:=OC.2 ⟨by omega,by omega⟩
 have hd:tC ⟨s,0⟩=true:=by
  show (iA (s.length:Int) 1 32&&iA 0 0 10000)=true
  rw [e0];rfl
 have hr:CE ⟨s,0⟩=(⟨s,cA .i64 0 1⟩,NC s 0):=by
  rw [CE,hd];rfl
 have hl:(NC s 0).length=12:=by
  rw [NC,e0]
  show (List.take 12 _).length=12
  rw [List.length_take,EK (by omega) (by rw [zbF];omega)];rfl
 have hj:xE (nF (NC s 0))=true:=by
  rw [nF,show MB (NC s 0)=true by rw [MB,hl];rfl]
  show (((lJ (NC s 0) [106,97,114]).length:Int)==32)=true
  rw [zpv (by omega) (by decide)];rfl
 have ht:YD m=⟨m,[]⟩:=by rw [YD,OC.2 hm];rfl
 have hp:mC a=true∧mC b=true:=⟨OC.2 (by omega),OC.2 (by omega)⟩
 have hto:vG ⟨m,[]⟩=true:=by
  show (iA m 1 6&&true&&decide ((0:Int)≤m)&&true)=true
  rw [OC.2 hm,decide_eq_true (by omega)];rfl
 have h1:cA .i64 0 1=1:=rfl
 show (iA 2 1 9&&xE (nF (CE ⟨s,0⟩).2)&&tC (CE ⟨s,0⟩).1&&vG (YD m)&&true&&!(!mC a||(!mC b||false))&&!((YD m).L.any fun e=>decide (e.Id>2)))=true
 rw [hr,ht,hto,hp.1,hp.2]
 simp only
 rw [hj,h1]
 show (true&&true&&(iA (s.length:Int) 1 32&&iA 1 0 10000)&&true&&true&&true&&true)=true
 rw [e0];rfl
theorem zvm {s a b:List UInt8} {m:Int} (h:s.length=8∧a.length=6∧b.length=9) (hm:1≤m∧m≤3):Ok (dV s a b m) fun r=>wt r≤4000∧TW r:=by
 have hL:=qA
 have hw:=zvn s a b m
 rw [LA,LA,LA] at hw
 refine tD (by rw [LA,LA,LA];omega) ⟨by omega,?_⟩
 have hs:=zsQ (s:=s) (a:=a) (b:=b) (m:=m) (by omega) (by omega) (by omega) (by omega)
 rw [GP,hs]
 obtain ⟨_,ka,kb,_⟩:=zvo hs
 show [CC 1 a (pB 1),CC 2 b (pB 2)].length=2∧(CC 1 a (pB 1)).Id=1∧(CC 2 b (pB 2)).Id=2
 rw [ka,kb]
 exact ⟨rfl,rfl,rfl⟩
theorem zo4 {b:List UInt8} {f n:Int} (h:b.length≤bA):Ok (pQ b f n) fun r=>r.1.length≤b.length:=tD (by rw [LA];exact h) (by
 unfold cut
 cases decide (f<0)||(decide (n<0)||(decide (f>(b.length:Int))||decide (n>(b.length:Int) - f)))
 ·rw [cond_false]
  simp only [List.length_take,List.length_drop];omega
 ·exact Nat.zero_le _)
theorem ztU (b:List UInt8) (f n:Int) (h:wt b≤bA) (hf:VC .i64 f) (hn:VC .i64 n):zL.raw b f n=some (cut b f n):=by
 have hl:b.length≤bA:=by rw [← LA];exact h
 have hL:=qA
 have hf:=fR hf
 have hn:=fR hn
 simp only [zL.raw,aA,cut,List.nil_append]
 by_cases h2:n<0
 ·rw [decide_eq_true h2]
  cases decide (f<0) <;> rfl
 by_cases h1:f<0
 ·rw [decide_eq_false h2,decide_eq_true h1];rfl
 by_cases h3:n>(b.length:Int)
 ·have h4:(decide (f>(b.length:Int))||decide (n>(b.length:Int) - f))=true:=by simp;omega
  rw [decide_eq_false h2,decide_eq_false h1,decide_eq_true h3,h4];rfl
 have e:sA .i64 (b.length:Int) n=(b.length:Int) - n:=by rw [sA,fC (by omega) (by omega)]
 rw [e]
 by_cases h4:f>(b.length:Int) - n
 ·have h5:(decide (f>(b.length:Int))||decide (n>(b.length:Int) - f))=true:=by simp;omega
  rw [decide_eq_false h2,decide_eq_false h1,decide_eq_false h3,decide_eq_true h4,h5];rfl
 have e2:cA .i64 f n=f+n:=by rw [cA,fC (by omega) (by omega)]
 have e3:(decide (0≤f)&&decide (f≤f+n)&&decide (f+n≤(b.length:Int)))=true:=by simp;omega
 have h5:(decide (f>(b.length:Int))||decide (n>(b.length:Int) - f))=false:=by simp;omega
 rw [decide_eq_false h1,decide_eq_false h2,decide_eq_false h3,decide_eq_false h4,h5]
 simp only [cond_false,e2]
 rw [e3,show f+n - f=n by omega]
 have:((b.drop f.toNat).take n.toNat).length≤bA:=by rw [List.length_take,List.length_drop];omega
 rw [List.length_nil,Nat.zero_add,decide_eq_true this];rfl
theorem zL.ok {x:lA [.sl .byte, .v .int, .v .int]} (hb:rA [.sl .byte, .v .int, .v .int] x) {r:List UInt8 × Bool}:pQ x.1 x.2.1 x.2.2=some r→zL.raw x.1 x.2.1 x.2.2=some r:=HA fun h=>
 ztU x.1 x.2.1 x.2.2 h (PP hb.2.1 0 (by decide) rfl) (PP hb.2.2 0 (by decide) rfl)
end Go.D

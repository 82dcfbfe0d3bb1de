/-
 The reference's machine comes to an end, and what it gives is small.
-/
import Derived.Test.YtdmiplkjdpcbeaaGreatN8c
namespace Go.D
def nd (k:Int):Int:=if k≤3 then 0 else if k=4∨k=9 then 1 else if k=10 then 3 else 2
theorem zrf (k:Int):0≤nd k∧nd k≤3∧(k=4→nd k=1)∧(k=5→nd k=2)∧(k=6→nd k=2)∧(k=7→nd k=2)∧(k=8→nd k=2)∧(k=9→nd k=1)∧(k=10→nd k=3):=by
 unfold nd
 repeat' split
 all_goals omega
theorem zU {a0:Int} (ha:0≤a0∧a0≤10):Ok (sM.raw a0) fun r=>r=nd a0∧0≤nd a0∧nd a0≤3:=by
 have:a0=0∨a0=1∨a0=2∨a0=3∨a0=4∨a0=5∨a0=6∨a0=7∨a0=8∨a0=9∨a0=10:=by omega
 rcases this with rfl | rfl | rfl | rfl | rfl | rfl | rfl | rfl | rfl | rfl | rfl <;> exact ⟨_,rfl,by decide⟩
theorem zgI {a0:G.Cur} (ha:jA a0):Ok (mP.raw a0) fun r=>jA r.2∧r.1.B.length≤32∧1≤r.1.Kind∧r.1.Kind≤10:=by
 (try simp only [N] at ha);have hL:=qA
 unfold mP.raw
 refine Ok.bind (TA (1) (10) ?_ (by simp) (by decide)) (fun r1 MV=>?_)
 ·(try simp only [N]);omega
 (try simp only [N] at MV);refine Ok.join (fun y2:G.Cur × G.Op=>jA y2.1∧y2.2.B.length≤32∧1≤y2.2.Kind∧y2.2.Kind≤10) (fun y2 WV=>?_) (fun k3 PV=>?_)
 ·(try simp only [N] at WV);refine Ok.bind (EA ?_) (fun r6 lW=>?_)
  ·(try simp only [N]);omega
  (try simp only [N] at lW);refine Ok.bind (TA (0) (16) ?_ (by simp) (by decide)) (fun r7 KW=>?_)
  ·(try simp only [N]);omega
  (try simp only [N] at KW);refine Ok.some' ?_;(try simp only [N]);omega
 refine Ok.condR (fun h1=>?_) (fun h1=>?_)
 ·(try simp only [B] at h1);refine PV _ ?_;(try simp only [N]);omega
 (try simp only [B] at h1);refine Ok.bind (TA (0) (32) ?_ (by simp) (by decide)) (fun r4 SV=>?_)
 ·(try simp only [N]);omega
 (try simp only [N] at SV);refine Ok.bind (qB ?_ ?_) (fun r5 TV=>?_)
 iterate 2 (·(try simp only [N]);omega)
 (try simp only [N] at TV);refine PV _ ?_;(try simp only [N]);omega
theorem zuq {a0:G.Cur} {a1:Int} (ha:jA a0) (hb:0<a1∧a1≤20):Ok (AU.raw a0 a1) fun r=>jA r.2∧wt r.1≤1000:=by
 (try simp only [N] at ha);(try simp only [N] at hb);have hL:=qA
 unfold AU.raw
 refine Ok.bind (EA ?_) (fun r1 MV=>?_)
 ·(try simp only [N]);omega
 (try simp only [N] at MV);refine Ok.join (fun y2:(List G.Op) × Int × G.Cur=>jA y2.2.2∧wt y2.1≤700∧y2.2.1≤21) (fun y2 WV=>?_) (fun k3 PV=>?_)
 ·(try simp only [N] at WV);refine Ok.join (fun y16:(List G.Op)=>wt y16≤1000) (fun y16 XW=>?_) (fun k17 pW=>?_)
  ·(try simp only [N] at XW);refine Ok.some' ?_;(try simp only [N]);omega
  refine Ok.loopR (fun x18:(List G.Op) × Int=>wt x18.1+x18.2≤730∧wt x18.1≤729∧x18.2≤30) (fun x18=>x18.2.toNat) ?_ ?_ (fun x18 t7 k19 HW=>?_)
  iterate 2 (·(try simp only);omega)
  (try simp only [N] at t7);refine Ok.condR (fun h1=>?_) (fun h1=>?_)
  ·(try simp only [B] at h1);refine pW _ ?_;(try simp only [N]);omega
  (try simp only [B] at h1);refine Ok.guard ?_ ?_
  ·(try simp only [N]);omega
  refine HW _ ?_ ?_
  iterate 2 (·(try have:=PA (a:=x18.2) (b:=1) (by omega) (by omega));(try simp only [N]);omega)
 refine Ok.loopR (fun x4:(List G.Op) × Int × Int × G.Cur=>0≤x4.2.2.1∧x4.2.2.1≤20∧wt x4.1+33 *x4.2.2.1≤660∧x4.2.1+x4.2.2.1≤20∧ -2 *20≤x4.2.1 - 2 *x4.2.2.1∧jA x4.2.2.2) (fun x4=>x4.2.2.1.toNat) ?_ ?_ (fun x4 B1 k5 EW=>?_)
 iterate 2 (·(try have:=zA (a:=1) (b:=r1.1) (by omega) (by omega));(try simp only [N]);omega)
 (try simp only [N] at B1);refine Ok.condR (fun h2=>?_) (fun h2=>?_)
 ·(try simp only [B] at h2);refine PV _ ?_;(try simp only [N]);omega
 (try simp only [B] at h2);refine Ok.bind (zgI ?_) (fun r6 lW=>?_)
 ·(try simp only [N]);omega
 (try simp only [N] at lW);refine Ok.join (fun y7:G.Cur × G.Op=>jA y7.1∧y7.2.B.length≤32∧1≤y7.2.Kind∧y7.2.Kind≤10) (fun y7 BZ=>?_) (fun k8 AX=>?_)
 ·(try simp only [N] at BZ);refine Ok.bind (zU ?_) (fun r15 tW=>?_)
  ·(try simp only [N]);omega
  (try simp only [N] at tW);refine Ok.guard ?_ ?_
  ·(try simp only [N]);omega
  refine EW _ ?_ ?_
  iterate 2 (·(try have:=PA (a:=x4.2.2.1) (b:=1) (by omega) (by omega));(try have:=PA (a:=x4.2.1) (b:=r15) (by omega) (by omega));(try have:=zA (a:=(sA .i64 x4.2.1 r15)) (b:=1) (by omega) (by omega));(try simp only [N]);omega)
 refine Ok.loopR (fun x9:Int × G.Cur × G.Op=>0≤x9.1∧x9.1≤6∧jA x9.2.1∧x9.2.2.B.length≤32∧1≤x9.2.2.Kind∧x9.2.2.Kind≤10) (fun x9=>(6 - x9.1).toNat) ?_ ?_ (fun x9 hx9 k10 XV=>?_)
 iterate 2 (·(try simp only [N]);omega)
 (try simp only [N] at hx9);refine Ok.join (fun y11:Bool=>y11=true→x9.1<6) (fun y11 iX=>?_) (fun k12 wW=>?_)
 ·refine Ok.condR (fun h3=>?_) (fun h3=>?_)
  ·refine AX _ ?_;(try simp only [N]);omega
  replace iX:=iX h3;(try simp only [N] at iX);refine Ok.bind (zgI ?_) (fun r14 OW=>?_)
  ·(try simp only [N]);omega
  (try simp only [N] at OW);refine XV _ ?_ ?_
  iterate 2 (·(try have:=zA (a:=x9.1) (b:=1) (by omega) (by omega));(try simp only [N]);omega)
 refine Ok.condR (fun h4=>?_) (fun h4=>?_)
 ·exact wW _ fun h=>nomatch h
 (try simp only [B] at h4);refine Ok.bind (zU ?_) (fun r13 IW=>?_)
 ·(try simp only [N]);omega
 (try simp only [N] at IW);refine wW _ fun q5=>?_;(try simp only [B] at q5);(try simp only [N]);omega
theorem zuJ {a0:G.Cur} (ha:jA a0):Ok (SU.raw a0) fun r=>jA r.2.2∧r.2.1.length≤40:=by
 (try simp only [N] at ha);have hL:=qA
 unfold SU.raw
 refine Ok.bind (EA ?_) (fun r1 MV=>?_)
 ·(try simp only [N]);omega
 (try simp only [N] at MV);refine Ok.cond' (fun h1=>?_) (fun h1=>?_)
 ·(try simp only [B] at h1);refine Ok.bind (EA ?_) (fun r2 VV=>?_)
  ·(try simp only [N]);omega
  (try simp only [N] at VV);refine Ok.bind (qB ?_ ?_) (fun r3 YV=>?_)
  iterate 2 (·(try simp only [N]);omega)
  (try simp only [N] at YV);refine Ok.some' ?_;(try have:=zA (a:=5) (b:=r2.1) (by omega) (by omega));(try simp only [N]);omega
 (try simp only [B] at h1);refine Ok.cond' (fun h2=>?_) (fun h2=>?_)
 ·(try simp only [B] at h2);refine Ok.bind (EA ?_) (fun r4 SV=>?_)
  ·(try simp only [N]);omega
  (try simp only [N] at SV);refine Ok.bind (qB ?_ ?_) (fun r5 TV=>?_)
  iterate 2 (·(try simp only [N]);omega)
  (try simp only [N] at TV);refine Ok.some' ?_;(try have:=zA (a:=7) (b:=r4.1) (by omega) (by omega));(try simp only [N]);omega
 (try simp only [B] at h2);refine Ok.bind (TA (0) (40) ?_ (by simp) (by decide)) (fun r6 lW=>?_)
 ·(try simp only [N]);omega
 (try simp only [N] at lW);refine Ok.bind (qB ?_ ?_) (fun r7 KW=>?_)
 iterate 2 (·(try simp only [N]);omega)
 (try simp only [N] at KW);refine Ok.some' ?_;(try simp only [N]);omega
theorem zuy {a0:G.Cur} {a1:G.World} {a2:Int} {a3:Bool} (ha:jA a0) (hb:wt a1≤400000000) (hc:TW a1):Ok (JU.raw a0 a1 a2 a3) fun r=>wt r.1≤3000∧jA r.2.1:=by
 (try simp only [N] at ha);(try simp only [N] at hb);(try simp only [N] at hc);have hL:=qA;have QY:=CB a1.Known;(try simp only [N] at QY)
 unfold JU.raw
 refine Ok.bind (EA ?_) (fun r1 MV=>?_)
 ·(try simp only [N]);omega
 (try simp only [N] at MV);refine Ok.bind (EA ?_) (fun r2 VV=>?_)
 ·(try simp only [N]);omega
 (try simp only [N] at VV);refine Ok.bind (EA ?_) (fun r3 YV=>?_)
 ·(try simp only [N]);omega
 (try simp only [N] at YV);refine Ok.joinR (fun y4:Bool × G.Cur=>jA y4.2) (fun k5 EW=>?_) (fun y4 aY=>?_)
 ·refine Ok.condR (fun h1=>?_) (fun h1=>?_)
  ·(try simp only [B] at h1);refine EW _ ?_;(try simp only [N]);omega
  (try simp only [B] at h1);refine Ok.bind (zC ?_) (fun r6 lW=>?_)
  ·(try simp only [N]);omega
  (try simp only [N] at lW);refine EW _ ?_;(try simp only [N]);omega
 (try simp only [N] at aY);refine Ok.cond' (fun h2=>?_) (fun h2=>?_)
 ·refine Ok.some' ?_;(try have:=zA (a:=a2) (b:=1) (by omega) (by omega));(try simp only [N]);omega
 refine Ok.joinR (fun y7:Bool × G.Cur=>jA y7.2) (fun k8 AX=>?_) (fun y7 BZ=>?_)
 ·refine Ok.bind (Ok.idx ?_ ?_) (fun e9 MZ=>?_)
  iterate 2 (·(try simp only [N]);omega)
  have UX:=wA MZ;(try simp only [N] at UX);refine Ok.condR (fun h3=>?_) (fun h3=>?_)
  ·(try simp only [B] at h3);refine AX _ ?_;(try simp only [N]);omega
  (try simp only [B] at h3);refine Ok.bind (zC ?_) (fun r10 BW=>?_)
  ·(try simp only [N]);omega
  (try simp only [N] at BW);refine AX _ ?_;(try simp only [N]);omega
 (try simp only [N] at BZ);refine Ok.cond' (fun h4=>?_) (fun h4=>?_)
 ·refine Ok.some' ?_;(try simp only [N]);omega
 refine Ok.bind (EA ?_) (fun r11 vW=>?_)
 ·(try simp only [N]);omega
 (try simp only [N] at vW);refine Ok.joinR (fun y12:Bool=>True) (fun k13 GW=>?_) (fun y12 OX=>?_)
 ·refine Ok.cond' (fun h5=>?_) (fun h5=>?_)
  ·exact GW _ trivial
  (try simp only [B] at h5);refine Ok.join (fun y14:Bool=>True) (fun y14 NY=>?_) (fun k15 nX=>?_)
  ·exact GW _ trivial
  refine Ok.cond' (fun h6=>?_) (fun h6=>?_)
  ·exact nX _ trivial
  exact nX _ trivial
 refine Ok.join (fun y16:G.Event × G.Cur × G.Event=>wt y16.1≤3000∧jA y16.2.1) (fun y16 XW=>?_) (fun k17 pW=>?_)
 ·(try simp only [N] at XW);refine Ok.some' ?_;(try simp only [N]);omega
 refine Ok.cond' (fun h7=>?_) (fun h7=>?_)
 ·refine Ok.bind (EA ?_) (fun r18 sX=>?_)
  ·(try simp only [N]);omega
  (try simp only [N] at sX);refine Ok.bind (qB ?_ ?_) (fun r19 fX=>?_)
  iterate 2 (·(try simp only [N]);omega)
  (try simp only [N] at fX);refine pW _ ?_;(try simp only [N]);omega
 refine Ok.joinR (fun y20:Bool=>True) (fun k21 sW=>?_) (fun y20 bX=>?_)
 ·refine Ok.cond' (fun h8=>?_) (fun h8=>?_)
  ·exact sW _ trivial
  exact sW _ trivial
 refine Ok.join (fun y22:G.Event × G.Cur × G.Event=>wt y22.1≤3000∧jA y22.2.1) (fun y22 A0=>?_) (fun k23 nY=>?_)
 ·(try simp only [N] at A0);refine pW _ ?_;(try simp only [N]);omega
 refine Ok.cond' (fun h9=>?_) (fun h9=>?_)
 ·refine Ok.bind (EA ?_) (fun r24 wY=>?_)
  ·(try simp only [N]);omega
  (try simp only [N] at wY);refine Ok.bind (EA ?_) (fun r25 QW=>?_)
  ·(try simp only [N]);omega
  (try simp only [N] at QW);refine Ok.bind (qB ?_ ?_) (fun r26 xY=>?_)
  iterate 2 (·(try simp only [N]);omega)
  (try simp only [N] at xY);refine nY _ ?_;(try simp only [N]);omega
 refine Ok.joinR (fun y27:Bool=>True) (fun k28 pX=>?_) (fun y27 ZY=>?_)
 ·refine Ok.cond' (fun oW=>?_) (fun oW=>?_)
  ·exact pX _ trivial
  exact pX _ trivial
 refine Ok.join (fun y29:G.Event × G.Cur × G.Event=>wt y29.1≤3000∧jA y29.2.1) (fun y29 S3=>?_) (fun k30 pZ=>?_)
 ·(try simp only [N] at S3);refine nY _ ?_;(try simp only [N]);omega
 refine Ok.cond' (fun gW=>?_) (fun gW=>?_)
 ·refine pZ _ ?_;(try simp only [N]);omega
 refine Ok.join (fun y31:G.Event × G.Cur × G.Event=>wt y31.1≤3000∧jA y31.2.1) (fun y31 T3=>?_) (fun k32 qZ=>?_)
 ·(try simp only [N] at T3);refine pZ _ ?_;(try simp only [N]);omega
 refine Ok.cond' (fun FW=>?_) (fun FW=>?_)
 ·(try simp only [B] at FW);refine qZ _ ?_;(try simp only [N]);omega
 (try simp only [B] at FW);refine Ok.joinR (fun y33:Bool=>True) (fun k34 OZ=>?_) (fun y33 U4=>?_)
 ·refine Ok.cond' (fun UW=>?_) (fun UW=>?_)
  ·exact OZ _ trivial
  exact OZ _ trivial
 refine Ok.join (fun y35:G.Event × G.Cur × G.Event=>wt y35.1≤3000∧jA y35.2.1) (fun y35 U3=>?_) (fun k36 LY=>?_)
 ·(try simp only [N] at U3);refine qZ _ ?_;(try simp only [N]);omega
 refine Ok.cond' (fun mX=>?_) (fun mX=>?_)
 ·refine LY _ ?_;(try simp only [N]);omega
 refine Ok.bind (EA ?_) (fun r37 ZZ=>?_)
 ·(try simp only [N]);omega
 (try simp only [N] at ZZ);refine Ok.bind (EA ?_) (fun r38 hr38=>?_)
 ·(try simp only [N]);omega
 (try simp only [N] at hr38);refine Ok.joinR (fun y39:Bool × G.Cur=>jA y39.2) (fun k40 V0=>?_) (fun y39 hy39=>?_)
 ·refine Ok.condR (fun yX=>?_) (fun yX=>?_)
  ·(try simp only [B] at yX);refine V0 _ ?_;(try simp only [N]);omega
  (try simp only [B] at yX);refine Ok.bind (zC ?_) (fun r41 j0=>?_)
  ·(try simp only [N]);omega
  (try simp only [N] at j0);refine V0 _ ?_;(try simp only [N]);omega
 (try simp only [N] at hy39);refine Ok.joinR (fun y42:G.Cur × G.Event=>jA y42.1∧wt y42.2≤500) (fun k43 sZ=>?_) (fun y42 W3=>?_)
 ·refine Ok.condR (fun PX=>?_) (fun PX=>?_)
  ·refine sZ _ ?_;(try have:=zA (a:=7) (b:=r37.1) (by omega) (by omega));(try simp only [N]);omega
  refine Ok.bind (EA ?_) (fun r44 S6=>?_)
  ·(try simp only [N]);omega
  (try simp only [N] at S6);refine sZ _ ?_;(try have:=PA (a:=(a1.Seen.length:Int)) (b:=1) (by omega) (by omega));(try have:=PA (a:=(sA .i64 (a1.Seen.length:Int) 1)) (b:=r44.1) (by omega) (by omega));(try have:=zA (a:=7) (b:=r37.1) (by omega) (by omega));(try simp only [N]);omega
 (try simp only [N] at W3);refine Ok.bind (EA ?_) (fun r46 hr46=>?_)
 ·(try simp only [N]);omega
 (try simp only [N] at hr46);refine Ok.cond' (fun SX=>?_) (fun SX=>?_)
 ·(try simp only [B] at SX);refine Ok.some' ?_;(try simp only [N]);omega
 (try simp only [B] at SX);refine Ok.bind (EA ?_) (fun r47 hr47=>?_)
 ·(try simp only [N]);omega
 (try simp only [N] at hr47);refine Ok.joinR (fun y48:Bool=>True) (fun k49 b3=>?_) (fun y48 hy48=>?_)
 ·refine Ok.cond' (fun fZ=>?_) (fun fZ=>?_)
  ·exact b3 _ trivial
  exact b3 _ trivial
 refine Ok.join (fun y50:G.Event × G.Cur=>wt y50.1≤3000∧jA y50.2) (fun y50 C7=>?_) (fun k51 o3=>?_)
 ·(try simp only [N] at C7);refine LY _ ?_;(try simp only [N]);omega
 refine Ok.cond' (fun CZ=>?_) (fun CZ=>?_)
 ·refine Ok.bind (zuq ?_ ?_) (fun r52 U6=>?_)
  iterate 2 (·(try simp only [N]);omega)
  (try simp only [N] at U6);refine Ok.join (fun y53:G.Cur × G.Event=>jA y53.1∧wt y53.2≤3000) (fun y53 hy53=>?_) (fun k54 u9=>?_)
  ·(try simp only [N] at hy53);refine o3 _ ?_;(try simp only [N]);omega
  refine Ok.condR (fun gZ=>?_) (fun gZ=>?_)
  ·(try simp only [B] at gZ);refine u9 _ ?_;(try simp only [N]);omega
  (try simp only [B] at gZ);refine Ok.bind (EA ?_) (fun r55 V6=>?_)
  ·(try simp only [N]);omega
  (try simp only [N] at V6);refine Ok.bind (Ok.idx ?_ ?_) (fun e56 I2=>?_)
  iterate 2 (·(try simp only [N]);omega)
  have kZ:=wA I2;(try simp only [N] at kZ);refine Ok.joinR (fun y57:Bool × G.Cur=>jA y57.2) (fun k58 w9=>?_) (fun y57 hy57=>?_)
  ·refine Ok.cond' (fun M1=>?_) (fun M1=>?_)
   ·(try simp only [B] at M1);refine w9 _ ?_;(try simp only [N]);omega
   (try simp only [B] at M1);refine Ok.bind (zC ?_) (fun r59 L3=>?_)
   ·(try simp only [N]);omega
   (try simp only [N] at L3);refine w9 _ ?_;(try simp only [N]);omega
  (try simp only [N] at hy57);refine Ok.joinR (fun y60:(List UInt8)=>y60.length≤900000000) (fun k61 tZ=>?_) (fun y60 Y3=>?_)
  ·refine Ok.condR (fun HZ=>?_) (fun HZ=>?_)
   ·refine tZ _ ?_;(try simp only [N]);omega
   refine Ok.bind (Ok.idx ?_ ?_) (fun e62 n6=>?_)
   iterate 2 (·(try simp only [N]);omega)
   have M2:=wA n6;(try simp only [N] at M2);refine tZ _ ?_;(try simp only [N]);omega
  (try simp only [N] at Y3);refine Ok.bind (zuJ ?_) (fun r63 hr63=>?_)
  ·(try simp only [N]);omega
  (try simp only [N] at hr63);refine Ok.bind (Ok.idx ?_ ?_) (fun e64 o6=>?_)
  iterate 2 (·(try simp only [N]);omega)
  have N2:=wA o6;(try simp only [N] at N2);refine Ok.bind (EA ?_) (fun r65 X6=>?_)
  ·(try simp only [N]);omega
  (try simp only [N] at X6);refine Ok.bind (EA ?_) (fun r66 hr66=>?_)
  ·(try simp only [N]);omega
  (try simp only [N] at hr66);refine Ok.bind (EA ?_) (fun r67 m0=>?_)
  ·(try simp only [N]);omega
  (try simp only [N] at m0);refine Ok.bind (ztj ?_ ?_ ?_) (fun r68 Y6=>?_)
  iterate 3 (·(try simp only [N]);omega)
  (try simp only [N] at Y6);refine Ok.join (fun y69:G.Event=>wt y69≤3000) (fun y69 I7=>?_) (fun k70 B3=>?_)
  ·(try simp only [N] at I7);refine u9 _ ?_;(try simp only [N]);omega
  refine Ok.cond' (fun aZ=>?_) (fun aZ=>?_)
  ·(try simp only [B] at aZ);refine B3 _ ?_;(try simp only [N]);omega
  (try simp only [B] at aZ);refine B3 _ ?_;(try simp only [N]);omega
 refine Ok.join (fun y71:G.Event × G.Cur=>wt y71.1≤3000∧jA y71.2) (fun y71 hy71=>?_) (fun k72 C9=>?_)
 ·(try simp only [N] at hy71);refine o3 _ ?_;(try simp only [N]);omega
 refine Ok.cond' (fun DZ=>?_) (fun DZ=>?_)
 ·(try simp only [B] at DZ);refine C9 _ ?_;(try simp only [N]);omega
 (try simp only [B] at DZ);refine Ok.join (fun y73:G.Event × G.Cur=>wt y73.1≤3000∧jA y73.2) (fun y73 hy73=>?_) (fun k74 D9=>?_)
 ·(try simp only [N] at hy73);refine C9 _ ?_;(try simp only [N]);omega
 refine Ok.cond' (fun N1=>?_) (fun N1=>?_)
 ·(try simp only [B] at N1);refine D9 _ ?_;(try simp only [N]);omega
 (try simp only [B] at N1);refine Ok.join (fun y75:G.Event × G.Cur=>wt y75.1≤3000∧jA y75.2) (fun y75 Z3=>?_) (fun k76 uZ=>?_)
 ·(try simp only [N] at Z3);refine D9 _ ?_;(try simp only [N]);omega
 refine Ok.cond' (fun Q0=>?_) (fun Q0=>?_)
 ·(try simp only [B] at Q0);refine Ok.bind (EA ?_) (fun r77 Z6=>?_)
  ·(try simp only [N]);omega
  (try simp only [N] at Z6);refine uZ _ ?_;(try simp only [N]);omega
 (try simp only [B] at Q0);refine Ok.join (fun y78:G.Event × G.Cur=>wt y78.1≤3000∧jA y78.2) (fun y78 hy78=>?_) (fun k79 E9=>?_)
 ·(try simp only [N] at hy78);refine uZ _ ?_;(try simp only [N]);omega
 refine Ok.cond' (fun S0=>?_) (fun S0=>?_)
 ·(try simp only [B] at S0);refine E9 _ ?_;(try simp only [N]);omega
 (try simp only [B] at S0);refine Ok.join (fun y80:G.Event × G.Cur=>wt y80.1≤3000∧jA y80.2) (fun y80 hy80=>?_) (fun k81 G9=>?_)
 ·(try simp only [N] at hy80);refine E9 _ ?_;(try simp only [N]);omega
 refine Ok.cond' (fun t4=>?_) (fun t4=>?_)
 ·(try simp only [B] at t4);refine Ok.bind (EA ?_) (fun r82 hr82=>?_)
  ·(try simp only [N]);omega
  (try simp only [N] at hr82);refine G9 _ ?_;(try simp only [N]);omega
 (try simp only [B] at t4);refine Ok.join (fun y83:G.Cur × G.Event=>jA y83.1∧wt y83.2≤3000) (fun y83 hy83=>?_) (fun k84 H9=>?_)
 ·(try simp only [N] at hy83);refine G9 _ ?_;(try simp only [N]);omega
 refine Ok.cond' (fun v4=>?_) (fun v4=>?_)
 ·(try simp only [B] at v4);refine Ok.bind (zC ?_) (fun r85 hr85=>?_)
  ·(try simp only [N]);omega
  (try simp only [N] at hr85);refine Ok.join (fun y86:G.Event × G.Cur=>wt y86.1≤3000∧jA y86.2) (fun y86 hy86=>?_) (fun k87 I9=>?_)
  ·(try simp only [N] at hy86);refine H9 _ ?_;(try simp only [N]);omega
  refine Ok.condR (fun z4=>?_) (fun z4=>?_)
  ·(try simp only [B] at z4);refine I9 _ ?_;(try simp only [N]);omega
  (try simp only [B] at z4);refine Ok.bind (EA ?_) (fun r88 b7=>?_)
  ·(try simp only [N]);omega
  (try simp only [N] at b7);refine I9 _ ?_;(try simp only [N]);omega
 (try simp only [B] at v4);refine Ok.join (fun y89:G.Event × G.Cur=>wt y89.1≤3000∧jA y89.2) (fun y89 J7=>?_) (fun k90 C3=>?_)
 ·(try simp only [N] at J7);refine H9 _ ?_;(try simp only [N]);omega
 refine Ok.condR (fun A4=>?_) (fun A4=>?_)
 ·(try simp only [B] at A4);refine C3 _ ?_;(try simp only [N]);omega
 (try simp only [B] at A4);refine Ok.bind (TA (2) (4) ?_ (by simp) (by decide)) (fun r91 hr91=>?_)
 ·(try simp only [N]);omega
 (try simp only [N] at hr91);refine Ok.bind (TA (24) (44) ?_ (by simp) (by decide)) (fun r92 hr92=>?_)
 ·(try simp only [N]);omega
 (try simp only [N] at hr92);refine C3 _ ?_;(try simp only [N]);omega
theorem ztK {a0:G.Op}:Ok (LT.raw a0) fun r=>(True)∧(r=true→1≤a0.Kind∧a0.Kind≤10∧a0.B.length≤200∧0≤a0.I∧0≤a0.J):=by
 have hL:=qA
 unfold LT.raw
 refine Ok.join (fun y1:Bool=>y1=true→1≤a0.Kind∧a0.Kind≤10∧a0.B.length≤200∧0≤a0.I∧0≤a0.J) (fun y1 UV=>?_) (fun k2 NV=>?_)
 ·refine Ok.some' ⟨?_,?_⟩
  ·trivial
  ·intro q1;(try simp only [B] at q1);replace UV:=UV q1;(try simp only [N] at UV);(try simp only [N]);omega
 refine Ok.condR (fun h2=>?_) (fun h2=>?_)
 ·exact NV _ fun h=>nomatch h
 (try simp only [B] at h2);refine Ok.condR (fun h3=>?_) (fun h3=>?_)
 ·exact NV _ fun h=>nomatch h
 (try simp only [B] at h3);refine Ok.condR (fun h4=>?_) (fun h4=>?_)
 ·exact NV _ fun h=>nomatch h
 (try simp only [B] at h4);refine NV _ fun q5=>?_;(try simp only [B] at q5);(try simp only [N]);omega
theorem zs8 {a0:List G.Op} {a1:List G.Wire} {a2:List (List UInt8)} (ha:wt a0≤100000) (hb:wt a1≤500000000) (hc:wt a2≤500000000):Ok (TS.raw a0 a1 a2) fun r=>r.1.length≤10000:=by
 (try simp only [N] at ha);(try simp only [N] at hb);(try simp only [N] at hc);have hL:=qA
 unfold TS.raw
 refine Ok.cond' (fun h1=>?_) (fun h1=>?_)
 ·(try simp only [B] at h1);refine Ok.some' ?_;(try simp only [N]);omega
 (try simp only [B] at h1);refine Ok.join (fun y1:(List (List UInt8))=>wt y1≤3300) (fun y1 UV=>?_) (fun k2 NV=>?_)
 ·(try simp only [N] at UV);have hyw:=CB y1;(try simp only [N] at hyw);refine Ok.cond' (fun h2=>?_) (fun h2=>?_)
  ·(try simp only [B] at h2);refine Ok.some' ?_;(try simp only [N]);omega
  (try simp only [B] at h2);refine Ok.chk ?_ ?_
  ·(try simp only [B]);omega
  refine Ok.bind (Ok.get ?_) (fun e71 s6=>?_)
  ·(try simp only [N]);omega
  have O2:=wA s6;(try simp only [N] at O2);refine Ok.guard ?_ ?_
  ·(try simp only [N]);omega
  refine Ok.some' ?_;(try simp only [N]);omega
 refine Ok.loopR (fun x3:(List (List UInt8)) × Int=>0≤x3.2∧x3.2≤(a0.length:Int)∧wt x3.1≤201 *x3.2) (fun x3=>((a0.length:Int) - x3.2).toNat) ?_ ?_ (fun x3 XY k4 bW=>?_)
 iterate 2 (·(try simp only [N]);omega)
 (try simp only [N] at XY);have hpw:=CB x3.1;(try simp only [N] at hpw);refine Ok.condR (fun h3=>?_) (fun h3=>?_)
 ·(try simp only [B] at h3);refine NV _ ?_;(try simp only [N]);omega
 (try simp only [B] at h3);refine Ok.bind (Ok.idx ?_ ?_) (fun e5 jZ=>?_)
 iterate 2 (·(try simp only [N]);omega)
 have mY:=wA jZ;(try simp only [N] at mY);have o5:=zrf e5.Kind;(try simp only [N] at o5);refine Ok.joinR (fun y6:Bool=>y6=false→1≤e5.Kind∧e5.Kind≤10∧e5.B.length≤200∧0≤e5.I∧0≤e5.J∧nd e5.Kind≤(x3.1.length:Int)) (fun k7 fW=>?_) (fun y6 WW=>?_)
 ·refine Ok.bind (ztK) (fun r8 xW=>?_);obtain ⟨xW,d7⟩:=xW;refine Ok.cond' (fun h4=>?_) (fun h4=>?_)
  ·exact fW _ fun h=>nomatch h
  (try simp only [B] at h4);replace d7:=d7 h4;(try simp only [N] at d7);refine Ok.bind (zU ?_) (fun r9 gX=>?_)
  ·(try simp only [N]);omega
  (try simp only [N] at gX);refine fW _ fun q5=>?_;(try simp only [B] at q5);(try simp only [N]);omega
 refine Ok.cond' (fun h6=>?_) (fun h6=>?_)
 ·refine Ok.some' ?_;(try simp only [N]);omega
 replace WW:=WW h6;(try simp only [N] at WW);refine Ok.bind (zU ?_) (fun r10 BW=>?_)
 ·(try simp only [N]);omega
 (try simp only [N] at BW);refine Ok.join (fun y11:(List UInt8)=>y11.length≤500000000) (fun y11 iX=>?_) (fun k12 wW=>?_)
 ·(try simp only [N] at iX);refine Ok.joinR (fun y68:Bool=>y68=false→y11.length≤200) (fun k69 A9=>?_) (fun y68 H7=>?_)
  ·refine Ok.cond' (fun h7=>?_) (fun h7=>?_)
   ·exact A9 _ fun h=>nomatch h
   (try simp only [B] at h7);refine A9 _ fun q8=>?_;(try simp only [B] at q8);(try have:=PA (a:=(x3.1.length:Int)) (b:=r10) (by omega) (by omega));(try simp only [N]);omega
  refine Ok.cond' (fun h9=>?_) (fun h9=>?_)
  ·refine Ok.some' ?_;(try simp only [N]);omega
  replace H7:=H7 h9;(try simp only [N] at H7);refine Ok.chk ?_ ?_
  ·(try have:=PA (a:=(x3.1.length:Int)) (b:=r10) (by omega) (by omega));(try simp only [B]);omega
  refine Ok.guard ?_ ?_
  ·(try have:=PA (a:=(x3.1.length:Int)) (b:=r10) (by omega) (by omega));have:=FE x3.1 ((sA .i64 (x3.1.length:Int) r10 - 0).toNat);(try simp only [N] at this);(try simp only [N]);omega
  refine bW _ ?_ ?_
  iterate 2 (·(try have:=zA (a:=x3.2) (b:=1) (by omega) (by omega));(try have:=PA (a:=(x3.1.length:Int)) (b:=r10) (by omega) (by omega));have:=FE x3.1 ((sA .i64 (x3.1.length:Int) r10 - 0).toNat);(try simp only [N] at this);(try simp only [N]);omega)
 refine Ok.cond' (fun oW=>?_) (fun oW=>?_)
 ·(try simp only [B] at oW);refine Ok.guard ?_ ?_
  ·(try simp only [N]);omega
  refine wW _ ?_;(try simp only [N]);omega
 (try simp only [B] at oW);refine Ok.join (fun y13:(List UInt8)=>y13.length≤500000000) (fun y13 RW=>?_) (fun k14 ZV=>?_)
 ·(try simp only [N] at RW);refine wW _ ?_;(try simp only [N]);omega
 refine Ok.cond' (fun gW=>?_) (fun gW=>?_)
 ·(try simp only [B] at gW);refine Ok.cond' (fun FW=>?_) (fun FW=>?_)
  ·(try simp only [B] at FW);refine Ok.some' ?_;(try simp only [N]);omega
  (try simp only [B] at FW);refine Ok.bind (Ok.idx ?_ ?_) (fun e15 kY=>?_)
  iterate 2 (·(try simp only [N]);omega)
  have IX:=wA kY;(try simp only [N] at IX);refine Ok.guard ?_ ?_
  ·(try simp only [N]);omega
  refine ZV _ ?_;(try simp only [N]);omega
 (try simp only [B] at gW);refine Ok.join (fun y16:(List UInt8)=>y16.length≤500000000) (fun y16 XW=>?_) (fun k17 pW=>?_)
 ·(try simp only [N] at XW);refine ZV _ ?_;(try simp only [N]);omega
 refine Ok.cond' (fun UW=>?_) (fun UW=>?_)
 ·(try simp only [B] at UW);refine Ok.cond' (fun mX=>?_) (fun mX=>?_)
  ·(try simp only [B] at mX);refine Ok.some' ?_;(try simp only [N]);omega
  (try simp only [B] at mX);refine Ok.bind (Ok.idx ?_ ?_) (fun e18 FY=>?_)
  iterate 2 (·(try simp only [N]);omega)
  have JX:=wA FY;(try simp only [N] at JX);refine Ok.guard ?_ ?_
  ·(try simp only [N]);omega
  refine pW _ ?_;(try simp only [N]);omega
 (try simp only [B] at UW);refine Ok.join (fun y19:(List UInt8)=>y19.length≤500000000) (fun y19 z7=>?_) (fun k20 X2=>?_)
 ·(try simp only [N] at z7);refine pW _ ?_;(try simp only [N]);omega
 refine Ok.cond' (fun yX=>?_) (fun yX=>?_)
 ·(try simp only [B] at yX);refine Ok.chk ?_ ?_
  ·(try have:=PA (a:=(x3.1.length:Int)) (b:=r10) (by omega) (by omega));(try simp only [B]);omega
  refine Ok.bind (Ok.get ?_) (fun e21 he21=>?_)
  ·(try have:=PA (a:=(x3.1.length:Int)) (b:=r10) (by omega) (by omega));(try simp only [N]);omega
  have o8:=wA he21;(try simp only [N] at o8);refine Ok.bind (zo4 ?_) (fun r22 PW=>?_)
  ·(try simp only [N]);omega
  (try simp only [N] at PW);refine Ok.condR (fun PX=>?_) (fun PX=>?_)
  ·(try simp only [B] at PX);refine X2 _ ?_;(try simp only [N]);omega
  (try simp only [B] at PX);refine Ok.some' ?_;(try simp only [N]);omega
 (try simp only [B] at yX);refine Ok.join (fun y23:(List UInt8)=>y23.length≤500000000) (fun y23 xX=>?_) (fun k24 zW=>?_)
 ·(try simp only [N] at xX);refine X2 _ ?_;(try simp only [N]);omega
 refine Ok.cond' (fun SX=>?_) (fun SX=>?_)
 ·(try simp only [B] at SX);refine Ok.chk ?_ ?_
  ·(try have:=PA (a:=(x3.1.length:Int)) (b:=r10) (by omega) (by omega));(try simp only [B]);omega
  refine Ok.bind (Ok.get ?_) (fun e25 he25=>?_)
  ·(try have:=PA (a:=(x3.1.length:Int)) (b:=r10) (by omega) (by omega));(try simp only [N]);omega
  have s8:=wA he25;(try simp only [N] at s8);refine Ok.guard ?_ ?_
  ·(try simp only [N]);omega
  refine Ok.chk ?_ ?_
  ·(try have:=PA (a:=(x3.1.length:Int)) (b:=r10) (by omega) (by omega));(try have:=zA (a:=(sA .i64 (x3.1.length:Int) r10)) (b:=1) (by omega) (by omega));(try simp only [B]);omega
  refine Ok.bind (Ok.get ?_) (fun e27 T5=>?_)
  ·(try have:=PA (a:=(x3.1.length:Int)) (b:=r10) (by omega) (by omega));(try have:=zA (a:=(sA .i64 (x3.1.length:Int) r10)) (b:=1) (by omega) (by omega));(try simp only [N]);omega
  have W1:=wA T5;(try simp only [N] at W1);refine Ok.guard ?_ ?_
  ·(try simp only [N]);omega
  refine zW _ ?_;(try simp only [N]);omega
 (try simp only [B] at SX);refine Ok.join (fun y28:(List UInt8)=>y28.length≤500000000) (fun y28 R3=>?_) (fun k29 oZ=>?_)
 ·(try simp only [N] at R3);refine zW _ ?_;(try simp only [N]);omega
 refine Ok.cond' (fun fZ=>?_) (fun fZ=>?_)
 ·(try simp only [B] at fZ);refine Ok.chk ?_ ?_
  ·(try have:=PA (a:=(x3.1.length:Int)) (b:=r10) (by omega) (by omega));(try simp only [B]);omega
  refine Ok.bind (Ok.get ?_) (fun e30 Y1=>?_)
  ·(try have:=PA (a:=(x3.1.length:Int)) (b:=r10) (by omega) (by omega));(try simp only [N]);omega
  have Z1:=wA Y1;(try simp only [N] at Z1);refine Ok.chk ?_ ?_
  ·(try have:=PA (a:=(x3.1.length:Int)) (b:=r10) (by omega) (by omega));(try have:=zA (a:=(sA .i64 (x3.1.length:Int) r10)) (b:=1) (by omega) (by omega));(try simp only [B]);omega
  refine Ok.bind (Ok.get ?_) (fun e32 KZ=>?_)
  ·(try have:=PA (a:=(x3.1.length:Int)) (b:=r10) (by omega) (by omega));(try have:=zA (a:=(sA .i64 (x3.1.length:Int) r10)) (b:=1) (by omega) (by omega));(try simp only [N]);omega
  have iZ:=wA KZ;(try simp only [N] at iZ);refine Ok.cond' (fun CZ=>?_) (fun CZ=>?_)
  ·(try simp only [B] at CZ);refine Ok.some' ?_;(try simp only [N]);omega
  (try simp only [B] at CZ);refine Ok.join (fun y33:(List UInt8)=>y33.length≤500000000) (fun y33 U4=>?_) (fun k34 OZ=>?_)
  ·(try simp only [N] at U4);refine oZ _ ?_;(try simp only [N]);omega
  refine Ok.loopR (fun x35:(List UInt8) × Int=>0≤x35.2∧x35.2≤(e30.length:Int)∧(x35.1.length:Int)=x35.2) (fun x35=>((e30.length:Int) - x35.2).toNat) ?_ ?_ (fun x35 hx35 k36 LY=>?_)
  iterate 2 (·(try simp only [N]);omega)
  (try simp only [N] at hx35);refine Ok.chk ?_ ?_
  ·(try have:=PA (a:=(x3.1.length:Int)) (b:=r10) (by omega) (by omega));(try simp only [B]);omega
  refine Ok.bind (Ok.get ?_) (fun e37 A8=>?_)
  ·(try have:=PA (a:=(x3.1.length:Int)) (b:=r10) (by omega) (by omega));(try simp only [N]);omega
  have B8:=wA A8;(try simp only [N] at B8);obtain rfl:e30=e37:=Option.some.inj (Y1.symm.trans A8);refine Ok.condR (fun gZ=>?_) (fun gZ=>?_)
  ·(try simp only [B] at gZ);refine OZ _ ?_;(try simp only [N]);omega
  (try simp only [B] at gZ);refine Ok.chk ?_ ?_
  ·(try have:=PA (a:=(x3.1.length:Int)) (b:=r10) (by omega) (by omega));(try simp only [B]);omega
  refine Ok.bind (Ok.get ?_) (fun e38 G4=>?_)
  ·(try have:=PA (a:=(x3.1.length:Int)) (b:=r10) (by omega) (by omega));(try simp only [N]);omega
  have A2:=wA G4;(try simp only [N] at A2);obtain rfl:e30=e38:=Option.some.inj (Y1.symm.trans G4);refine Ok.bind (Ok.idx ?_ ?_) (fun e39 he39=>?_)
  iterate 2 (·(try simp only [N]);omega)
  have C8:=wA he39;(try simp only [N] at C8);refine Ok.chk ?_ ?_
  ·(try have:=PA (a:=(x3.1.length:Int)) (b:=r10) (by omega) (by omega));(try have:=zA (a:=(sA .i64 (x3.1.length:Int) r10)) (b:=1) (by omega) (by omega));(try simp only [B]);omega
  refine Ok.bind (Ok.get ?_) (fun e41 I4=>?_)
  ·(try have:=PA (a:=(x3.1.length:Int)) (b:=r10) (by omega) (by omega));(try have:=zA (a:=(sA .i64 (x3.1.length:Int) r10)) (b:=1) (by omega) (by omega));(try simp only [N]);omega
  have C2:=wA I4;(try simp only [N] at C2);obtain rfl:e32=e41:=Option.some.inj (KZ.symm.trans I4);refine Ok.bind (Ok.idx ?_ ?_) (fun e42 he42=>?_)
  iterate 2 (·(try simp only [N]);omega)
  have D8:=wA he42;(try simp only [N] at D8);refine Ok.guard ?_ ?_
  ·(try simp only [N]);omega
  refine LY _ ?_ ?_
  iterate 2 (·(try have:=zA (a:=x35.2) (b:=1) (by omega) (by omega));(try simp only [N]);omega)
 (try simp only [B] at fZ);refine Ok.join (fun y44:(List UInt8)=>y44.length≤500000000) (fun y44 hy44=>?_) (fun k45 s9=>?_)
 ·(try simp only [N] at hy44);refine oZ _ ?_;(try simp only [N]);omega
 refine Ok.cond' (fun M1=>?_) (fun M1=>?_)
 ·(try simp only [B] at M1);refine Ok.chk ?_ ?_
  ·(try have:=PA (a:=(x3.1.length:Int)) (b:=r10) (by omega) (by omega));(try simp only [B]);omega
  refine Ok.bind (Ok.get ?_) (fun e46 Z5=>?_)
  ·(try have:=PA (a:=(x3.1.length:Int)) (b:=r10) (by omega) (by omega));(try simp only [N]);omega
  have E2:=wA Z5;(try simp only [N] at E2);refine Ok.chk ?_ ?_
  ·(try have:=PA (a:=(x3.1.length:Int)) (b:=r10) (by omega) (by omega));(try have:=zA (a:=(sA .i64 (x3.1.length:Int) r10)) (b:=1) (by omega) (by omega));(try simp only [B]);omega
  refine Ok.bind (Ok.get ?_) (fun e48 he48=>?_)
  ·(try have:=PA (a:=(x3.1.length:Int)) (b:=r10) (by omega) (by omega));(try have:=zA (a:=(sA .i64 (x3.1.length:Int) r10)) (b:=1) (by omega) (by omega));(try simp only [N]);omega
  have E8:=wA he48;(try simp only [N] at E8);have hhm:=rR e46 e48;(try simp only [N] at hhm);refine s9 _ ?_;(try simp only [N]);omega
 (try simp only [B] at M1);refine Ok.join (fun y50:(List UInt8)=>y50.length≤500000000) (fun y50 C7=>?_) (fun k51 o3=>?_)
 ·(try simp only [N] at C7);refine s9 _ ?_;(try simp only [N]);omega
 refine Ok.cond' (fun HZ=>?_) (fun HZ=>?_)
 ·(try simp only [B] at HZ);refine Ok.chk ?_ ?_
  ·(try have:=PA (a:=(x3.1.length:Int)) (b:=r10) (by omega) (by omega));(try simp only [B]);omega
  refine Ok.bind (Ok.get ?_) (fun e52 b6=>?_)
  ·(try have:=PA (a:=(x3.1.length:Int)) (b:=r10) (by omega) (by omega));(try simp only [N]);omega
  have F2:=wA b6;(try simp only [N] at F2);refine Ok.chk ?_ ?_
  ·(try have:=PA (a:=(x3.1.length:Int)) (b:=r10) (by omega) (by omega));(try have:=zA (a:=(sA .i64 (x3.1.length:Int) r10)) (b:=1) (by omega) (by omega));(try simp only [B]);omega
  refine Ok.bind (Ok.get ?_) (fun e54 he54=>?_)
  ·(try have:=PA (a:=(x3.1.length:Int)) (b:=r10) (by omega) (by omega));(try have:=zA (a:=(sA .i64 (x3.1.length:Int) r10)) (b:=1) (by omega) (by omega));(try simp only [N]);omega
  have H8:=wA he54;(try simp only [N] at H8);refine Ok.bind (RO) (fun r55 V6=>?_);(try simp only [N] at V6);refine o3 _ ?_;(try simp only [N]);omega
 (try simp only [B] at HZ);refine Ok.join (fun y56:(List UInt8)=>y56.length≤500000000) (fun y56 hy56=>?_) (fun k57 v9=>?_)
 ·(try simp only [N] at hy56);refine o3 _ ?_;(try simp only [N]);omega
 refine Ok.cond' (fun aZ=>?_) (fun aZ=>?_)
 ·(try simp only [B] at aZ);refine Ok.chk ?_ ?_
  ·(try have:=PA (a:=(x3.1.length:Int)) (b:=r10) (by omega) (by omega));(try simp only [B]);omega
  refine Ok.bind (Ok.get ?_) (fun e58 m6=>?_)
  ·(try have:=PA (a:=(x3.1.length:Int)) (b:=r10) (by omega) (by omega));(try simp only [N]);omega
  have L2:=wA m6;(try simp only [N] at L2);refine Ok.bind (jI ?_) (fun r59 L3=>?_)
  ·(try simp only [N]);omega
  (try simp only [N] at L3);refine v9 _ ?_;(try simp only [N]);omega
 (try simp only [B] at aZ);refine Ok.join (fun y60:(List UInt8)=>y60.length≤500000000) (fun y60 Y3=>?_) (fun k61 tZ=>?_)
 ·(try simp only [N] at Y3);refine v9 _ ?_;(try simp only [N]);omega
 refine Ok.condR (fun DZ=>?_) (fun DZ=>?_)
 ·(try simp only [B] at DZ);refine tZ _ ?_;(try simp only [N]);omega
 (try simp only [B] at DZ);refine Ok.chk ?_ ?_
 ·(try have:=PA (a:=(x3.1.length:Int)) (b:=r10) (by omega) (by omega));(try simp only [B]);omega
 refine Ok.bind (Ok.get ?_) (fun e62 n6=>?_)
 ·(try have:=PA (a:=(x3.1.length:Int)) (b:=r10) (by omega) (by omega));(try simp only [N]);omega
 have M2:=wA n6;(try simp only [N] at M2);refine Ok.chk ?_ ?_
 ·(try have:=PA (a:=(x3.1.length:Int)) (b:=r10) (by omega) (by omega));(try have:=zA (a:=(sA .i64 (x3.1.length:Int) r10)) (b:=1) (by omega) (by omega));(try simp only [B]);omega
 refine Ok.bind (Ok.get ?_) (fun e64 o6=>?_)
 ·(try have:=PA (a:=(x3.1.length:Int)) (b:=r10) (by omega) (by omega));(try have:=zA (a:=(sA .i64 (x3.1.length:Int) r10)) (b:=1) (by omega) (by omega));(try simp only [N]);omega
 have N2:=wA o6;(try simp only [N] at N2);refine Ok.chk ?_ ?_
 ·(try have:=PA (a:=(x3.1.length:Int)) (b:=r10) (by omega) (by omega));(try have:=zA (a:=(sA .i64 (x3.1.length:Int) r10)) (b:=2) (by omega) (by omega));(try simp only [B]);omega
 refine Ok.bind (Ok.get ?_) (fun e66 he66=>?_)
 ·(try have:=PA (a:=(x3.1.length:Int)) (b:=r10) (by omega) (by omega));(try have:=zA (a:=(sA .i64 (x3.1.length:Int) r10)) (b:=2) (by omega) (by omega));(try simp only [N]);omega
 have K8:=wA he66;(try simp only [N] at K8);refine Ok.bind (zbV ?_ ?_) (fun r67 m0=>?_)
 iterate 2 (·(try simp only [N]);omega)
 (try simp only [N] at m0);refine tZ _ ?_;(try simp only [N]);omega
theorem zgx {a0:G.Dice} {a1:Int} (ha:wt a0≤1000000000):Ok (WO.raw a0 a1) fun r=>wt r≤wt a0:=by
 (try simp only [N] at ha);have hL:=qA
 unfold WO.raw
 refine Ok.same (XA ?_) ?_
 ·(try simp only [N]);omega
 refine Ok.joinR (fun y2:Bool=>True) (fun k3 PV=>?_) (fun y2 WV=>?_)
 ·refine Ok.condR (fun h1=>?_) (fun h1=>?_)
  ·exact PV _ trivial
  exact PV _ trivial
 refine Ok.join (fun y4:G.Dice=>wt y4≤wt a0) (fun y4 aY=>?_) (fun k5 EW=>?_)
 ·(try simp only [N] at aY);refine Ok.some' ?_;(try simp only [N]);omega
 refine Ok.condR (fun h2=>?_) (fun h2=>?_)
 ·refine EW _ ?_;(try simp only [N]);omega
 refine EW _ ?_;(try simp only [N]);omega
theorem vM {a0:G.World} {a1:List G.Wire} {a2:List G.Note} (ha:wt a0≤1000000000) (hb:wt a1≤1000) (hc:wt a2≤1000000) (hd:TW a0):Ok (TH.raw a0 a1 a2) fun r=>wt r≤wt a0+1003000+wt a2∧wt r.Clients+wt r.S≤wt a0.Clients+wt a0.S∧TW r:=by
 (try simp only [N] at ha);(try simp only [N] at hb);(try simp only [N] at hc);(try simp only [N] at hd);have hL:=qA;have hw:=CB a1;(try simp only [N] at hw)
 unfold TH.raw
 refine Ok.join (fun y1:G.World=>wt y1≤wt a0+1003000∧wt y1.Clients+wt y1.S≤wt a0.Clients+wt a0.S∧TW y1) (fun y1 UV=>?_) (fun k2 NV=>?_)
 ·(try simp only [N] at UV);refine Ok.guard ?_ ?_
  ·(try simp only [N]);omega
  refine Ok.some' ?_;(try simp only [N]);omega
 refine Ok.loopR (fun x3:Int × G.World=>0≤x3.1∧x3.1≤(a1.length:Int)∧wt x3.2≤wt a0+1001 *x3.1∧wt x3.2.Clients+wt x3.2.S≤wt a0.Clients+wt a0.S∧TW x3.2) (fun x3=>((a1.length:Int) - x3.1).toNat) ?_ ?_ (fun x3 XY k4 bW=>?_)
 iterate 2 (·(try simp only [N]);omega)
 (try simp only [N] at XY);refine Ok.condR (fun h1=>?_) (fun h1=>?_)
 ·(try simp only [B] at h1);refine NV _ ?_;(try simp only [N]);omega
 (try simp only [B] at h1);refine Ok.join (fun y5:G.World=>wt y5≤wt a0+1001 *x3.1+1001∧wt y5.Clients+wt y5.S≤wt a0.Clients+wt a0.S∧TW y5) (fun y5 AZ=>?_) (fun k6 kX=>?_)
 ·(try simp only [N] at AZ);refine bW _ ?_ ?_
  iterate 2 (·(try have:=zA (a:=x3.1) (b:=1) (by omega) (by omega));(try simp only [N]);omega)
 refine Ok.condR (fun h2=>?_) (fun h2=>?_)
 ·(try simp only [B] at h2);refine kX _ ?_;(try simp only [N]);omega
 (try simp only [B] at h2);refine Ok.bind (Ok.idx ?_ ?_) (fun e7 H0=>?_)
 iterate 2 (·(try simp only [N]);omega)
 have TX:=wA H0;(try simp only [N] at TX);refine Ok.guard ?_ ?_
 ·(try simp only [N]);omega
 refine kX _ ?_;(try simp only [N]);omega
theorem EU {a0:G.World} {a1:Int} {a2:G.Client} {a3:List G.Frame} {a4:List G.Note} (ha:wt a0≤900000000) (hb:wt a2≤zci a0.Clients a1.toNat+2000) (hc:a3.length≤3) (hd:wt a3≤1000000) (he:wt a4≤1000000) (hf:TW a0) (hg:0≤a1∧a1≤1) (hh:a2.Id=eG a0.Clients a1.toNat):Ok (TJ.raw a0 a1 a2 a3 a4) fun r=>wt r≤wt a0+1006000+wt a4∧wt r.Clients+wt r.S≤wt a0.Clients+wt a0.S+2000∧TW r:=by
 (try simp only [N] at ha);(try simp only [N] at hb);(try simp only [N] at hc);(try simp only [N] at hd);(try simp only [N] at he);(try simp only [N] at hf);(try simp only [N] at hg);(try simp only [N] at hh);have hL:=qA
 unfold TJ.raw
 refine Ok.chk ?_ ?_
 ·(try simp only [B]);omega
 refine Ok.bind (Ok.get ?_) (fun e1 EZ=>?_)
 ·(try simp only [N]);omega
 have R5:=wA EZ;(try simp only [N] at R5);have hwa:=ZJ EZ;(try simp only [N] at hwa);have EY:=pI (l:=a0.Clients) (i:=a1.toNat) (x:=a2) (by have:=uE EZ;omega) (xI EZ) 0;(try simp only [N] at EY);have QX:=pI (l:=a0.Clients) (i:=a1.toNat) (x:=a2) (by have:=uE EZ;omega) (xI EZ) 1;(try simp only [N] at QX)
 have P4:=MM (x:=a2) EZ;(try simp only [N] at P4);refine Ok.bind (zb2 ?_ ?_) (fun r2 VV=>?_)
 iterate 2 (·(try simp only [N]);omega)
 (try simp only [N] at VV);refine Ok.bind (vM ?_ ?_ ?_ ?_) (fun r3 YV=>?_)
 iterate 4 (·have:=EB a0.Clients a1.toNat a2;(try simp only [N] at this);(try simp only [N]);omega)
 (try simp only [N] at YV);refine Ok.some' ?_;(try simp only [N]);omega
theorem zus {a0:G.World} {a1:Int} {a2:G.Addr} {a3:List UInt8} (ha:wt a0≤900000000) (hb:wt a3≤900000000) (hc:TW a0) (hd:0≤a1∧a1≤2):Ok (BU.raw a0 a1 a2 a3) fun r=>wt r.1≤1000∧wt r.2≤wt a0+100000∧wt r.2.Clients+wt r.2.S≤wt a0.Clients+wt a0.S+50000∧TW r.2:=by
 (try simp only [N] at ha);(try simp only [N] at hb);(try simp only [N] at hc);(try simp only [N] at hd);have hL:=qA
 unfold BU.raw
 refine Ok.cond' (fun h1=>?_) (fun h1=>?_)
 ·(try simp only [B] at h1);refine Ok.bind (ztz ?_ ?_) (fun r1 MV=>?_)
  iterate 2 (·(try simp only [N]);omega)
  (try simp only [N] at MV);refine Ok.guard ?_ ?_
  ·(try simp only [N]);omega
  refine Ok.bind (zgJ ?_) (fun r2 VV=>?_)
  ·(try simp only [N]);omega
  (try simp only [N] at VV);refine Ok.some' ?_;(try simp only [N]);omega
 (try simp only [B] at h1);refine Ok.bind (zgj ?_) (fun r3 YV=>?_)
 ·(try simp only [N]);omega
 (try simp only [N] at YV);refine Ok.cond' (fun h2=>?_) (fun h2=>?_)
 ·(try simp only [B] at h2);refine Ok.some' ?_;(try simp only [N]);omega
 (try simp only [B] at h2);refine Ok.chk ?_ ?_
 ·(try have:=PA (a:=a1) (b:=1) (by omega) (by omega));(try simp only [B]);omega
 refine Ok.bind (Ok.get ?_) (fun e4 U0=>?_)
 ·(try have:=PA (a:=a1) (b:=1) (by omega) (by omega));(try simp only [N]);omega
 have LZ:=wA U0;(try simp only [N] at LZ);refine Ok.bind (zbQ ?_ ?_) (fun r5 TV=>?_)
 iterate 2 (·(try simp only [N]);omega)
 (try simp only [N] at TV);refine Ok.chk ?_ ?_
 ·(try have:=PA (a:=a1) (b:=1) (by omega) (by omega));(try simp only [B]);omega
 refine Ok.bind (Ok.get ?_) (fun e6 FZ=>?_)
 ·(try have:=PA (a:=a1) (b:=1) (by omega) (by omega));(try simp only [N]);omega
 have CX:=wA FZ;(try simp only [N] at CX);obtain rfl:e4=e6:=Option.some.inj (U0.symm.trans FZ);have EY:=pI (l:=a0.Clients) (i:=(sA .i64 a1 1).toNat) (x:=r5.1) (by have:=uE U0;omega) (xI U0) 0;(try simp only [N] at EY)
 have QX:=pI (l:=a0.Clients) (i:=(sA .i64 a1 1).toNat) (x:=r5.1) (by have:=uE U0;omega) (xI U0) 1;(try simp only [N] at QX);have P4:=MM (x:=r5.1) U0;(try simp only [N] at P4);refine Ok.guard ?_ ?_
 ·(try simp only [N]);omega
 refine Ok.bind (zb2 ?_ ?_) (fun r7 KW=>?_)
 iterate 2 (·(try simp only [N]);omega)
 (try simp only [N] at KW);refine Ok.some' ?_;(try have:=PA (a:=a1) (b:=1) (by omega) (by omega));have:=EB a0.Clients ((sA .i64 a1 1).toNat) r5.1;(try simp only [N] at this);(try simp only [N]);omega
theorem pP {a0:G.World} {a1:Int} {a2:G.Addr} {a3:List UInt8} (ha:wt a0≤800000000) (hb:wt a3≤900000000) (hc:TW a0) (hd:0≤a1∧a1≤2):Ok (NI.raw a0 a1 a2 a3) fun r=>wt r≤wt a0+1200000∧wt r.Clients+wt r.S≤wt a0.Clients+wt a0.S+50000∧TW r:=by
 (try simp only [N] at ha);(try simp only [N] at hb);(try simp only [N] at hc);(try simp only [N] at hd);have hL:=qA
 unfold NI.raw
 refine Ok.bind (zus ?_ ?_ ?_ ?_) (fun r1 MV=>?_)
 iterate 4 (·(try simp only [N]);omega)
 (try simp only [N] at MV);refine Ok.bind (vM ?_ ?_ ?_ ?_) (fun r2 VV=>?_)
 iterate 4 (·(try simp only [N]);omega)
 (try simp only [N] at VV);refine Ok.some' ?_;(try simp only [N]);omega
theorem zgK {a0:G.World} {a1:G.Chan} (ha:wt a0≤900000000) (hb:wt a1≤4000000) (hc:TW a0):Ok (qP.raw a0 a1) fun r=>wt r.2≤wt a0+4001000∧wt r.2.Clients+wt r.2.S≤wt a0.Clients+wt a0.S∧TW r.2:=by
 (try simp only [N] at ha);(try simp only [N] at hb);(try simp only [N] at hc);have hL:=qA;have hk:=CB a0.Known;(try simp only [N] at hk)
 unfold qP.raw
 refine Ok.bind (ztq ?_) (fun r1 MV=>?_)
 ·(try simp only [N]);omega
 (try simp only [N] at MV);have hl:=CB r1;(try simp only [N] at hl);refine Ok.cond' (fun h1=>?_) (fun h1=>?_)
 ·(try simp only [B] at h1);(try have:=zA (a:=(a0.Known.length:Int)) (b:=(r1.length:Int)) (by omega) (by omega));refine Ok.some' ?_;(try simp only [N]);omega
 (try simp only [B] at h1);(try have:=zA (a:=(a0.Known.length:Int)) (b:=(r1.length:Int)) (by omega) (by omega));refine Ok.guard ?_ ?_
 ·(try simp only [N]);omega
 refine Ok.guard ?_ ?_
 ·(try simp only [N]);omega
 refine Ok.guard ?_ ?_
 ·(try simp only [N]);omega
 refine Ok.some' ?_;(try simp only [N]);omega
theorem zut {a0:G.World} (ha:wt a0≤800000000) (hb:TW a0):Ok (CU.raw a0) fun r=>wt r.1≤1000∧wt r.2≤wt a0+120000∧wt r.2.Clients+wt r.2.S≤wt a0.Clients+wt a0.S+60000∧TW r.2:=by
 (try simp only [N] at ha);(try simp only [N] at hb);have hL:=qA
 unfold CU.raw
 refine Ok.join (fun y1:(List G.Wire) × G.World=>wt y1.1≤804∧wt y1.2≤wt a0+6000∧wt y1.2.Clients+wt y1.2.S≤wt a0.Clients+wt a0.S∧TW y1.2) (fun y1 UV=>?_) (fun k2 NV=>?_)
 ·(try simp only [N] at UV);refine Ok.bind (ztB ?_) (fun r9 gX=>?_)
  ·(try simp only [N]);omega
  (try simp only [N] at gX);refine Ok.guard ?_ ?_
  ·(try simp only [N]);omega
  refine Ok.some' ?_;(try simp only [N]);omega
 refine Ok.loopR (fun x3:(List G.Wire) × Int × G.World=>0≤x3.2.1∧x3.2.1≤2∧wt x3.1≤402 *x3.2.1∧wt x3.2.2≤wt a0+3000 *x3.2.1∧wt x3.2.2.Clients+wt x3.2.2.S≤wt a0.Clients+wt a0.S∧TW x3.2.2) (fun x3=>(2 - x3.2.1).toNat) ?_ ?_ (fun x3 XY k4 bW=>?_)
 iterate 2 (·(try have:=zA (a:=a0.Now) (b:=1) (by omega) (by omega));(try simp only [N]);omega)
 (try simp only [N] at XY);refine Ok.condR (fun h1=>?_) (fun h1=>?_)
 ·(try simp only [B] at h1);refine NV _ ?_;(try simp only [N]);omega
 (try simp only [B] at h1);refine Ok.chk ?_ ?_
 ·(try simp only [B]);omega
 refine Ok.bind (Ok.get ?_) (fun e5 jZ=>?_)
 ·(try simp only [N]);omega
 have mY:=wA jZ;(try simp only [N] at mY);refine Ok.bind (zs6 ?_) (fun r6 lW=>?_)
 ·(try simp only [N]);omega
 (try simp only [N] at lW);refine Ok.chk ?_ ?_
 ·(try simp only [B]);omega
 refine Ok.bind (Ok.get ?_) (fun e7 H0=>?_)
 ·(try simp only [N]);omega
 have TX:=wA H0;(try simp only [N] at TX);obtain rfl:e5=e7:=Option.some.inj (jZ.symm.trans H0);have EY:=pI (l:=x3.2.2.Clients) (i:=x3.2.1.toNat) (x:=r6.1) (by have:=uE jZ;omega) (xI jZ) 0;(try simp only [N] at EY);have QX:=pI (l:=x3.2.2.Clients) (i:=x3.2.1.toNat) (x:=r6.1) (by have:=uE jZ;omega) (xI jZ) 1
 (try simp only [N] at QX);have P4:=MM (x:=r6.1) jZ;(try simp only [N] at P4);refine Ok.guard ?_ ?_
 ·(try simp only [N]);omega
 refine Ok.bind (zb2 ?_ ?_) (fun r8 xW=>?_)
 iterate 2 (·(try simp only [N]);omega)
 (try simp only [N] at xW);refine Ok.guard ?_ ?_
 ·(try simp only [N]);omega
 refine bW _ ?_ ?_
 iterate 2 (·(try have:=zA (a:=x3.2.1) (b:=1) (by omega) (by omega));have:=EB x3.2.2.Clients x3.2.1.toNat r6.1;(try simp only [N] at this);(try simp only [N]);omega)
theorem zuv {a0:G.World} {a1:G.Event} (ha:wt a0≤400000000) (hb:wt a0.Clients+wt a0.S≤4000000) (hc:TW a0) (hd:0≤a1.I∧0≤a1.J∧0≤a1.N) (he:wt a1≤5000):Ok (GU.raw a0 a1) fun r=>wt r.2≤wt a0+5100000∧wt r.2.Clients+wt r.2.S≤wt a0.Clients+wt a0.S+61000∧TW r.2:=by
 (try simp only [N] at ha);(try simp only [N] at hb);(try simp only [N] at hc);(try simp only [N] at hd);(try simp only [N] at he);have hL:=qA;have hsn:=CB a0.Seen;(try simp only [N] at hsn);have hd1:=sI (a:=a1.I) (n:=2) (by omega) (by omega);(try simp only [N] at hd1);have hd2:=sI (a:=a1.J) (n:=3) (by omega) (by omega);(try simp only [N] at hd2)
 unfold GU.raw
 refine Ok.joinR (fun y1:Bool=>True) (fun k2 NV=>?_) (fun y1 UV=>?_)
 ·refine Ok.condR (fun h1=>?_) (fun h1=>?_)
  ·exact NV _ trivial
  exact NV _ trivial
 refine Ok.joinR (fun y3:G.Wire=>wt y3≤wt a0) (fun k4 bW=>?_) (fun y3 cX=>?_)
 ·refine Ok.condR (fun h2=>?_) (fun h2=>?_)
  ·refine bW _ ?_;(try simp only [N]);omega
  refine Ok.cond' (fun h3=>?_) (fun h3=>?_)
  ·(try simp only [B] at h3);refine Ok.some' ?_;(try simp only [N]);omega
  (try simp only [B] at h3);have hd3:=sI (a:=a1.I) (n:=(a0.Seen.length:Int)) (by omega) (by omega);refine Ok.chkn ?_ ?_
  ·(try simp only [B]);omega
  refine Ok.chk ?_ ?_
  ·(try simp only [B]);omega
  refine Ok.bind (Ok.get ?_) (fun e5 jZ=>?_)
  ·(try simp only [N]);omega
  have mY:=wA jZ;(try simp only [N] at mY);refine bW _ ?_;(try simp only [N]);omega
 (try simp only [N] at cX);refine Ok.join (fun y6:G.World=>wt y6≤wt a0+5100000∧wt y6.Clients+wt y6.S≤wt a0.Clients+wt a0.S+61000∧TW y6) (fun y6 WW=>?_) (fun k7 fW=>?_)
 ·(try simp only [N] at WW);refine Ok.some' ?_;(try simp only [N]);omega
 refine Ok.cond' (fun h4=>?_) (fun h4=>?_)
 ·(try simp only [B] at h4);refine Ok.bind (xS ?_) (fun r8 xW=>?_)
  ·(try simp only [N]);omega
  (try simp only [N] at xW)
  have hn:wt (BE r8.2)=wt r8.2:=by simp only [BE,AG,PD,LA,List.length_nil];omega
  (try simp only [N] at hn);refine Ok.chk ?_ ?_
  ·(try simp only [B]);omega
  refine Ok.bind (Ok.get ?_) (fun e9 MZ=>?_)
  ·(try simp only [N]);omega
  have UX:=wA MZ;(try simp only [N] at UX);have hie9:=uE MZ;(try simp only [N] at hie9);have hve9:=ZJ MZ;(try simp only [N] at hve9);refine Ok.bind (zge ?_ ?_) (fun r10 BW=>?_)
  iterate 2 (·(try simp only [N]);omega)
  (try simp only [N] at BW);refine Ok.cond' (fun h5=>?_) (fun h5=>?_)
  ·(try simp only [B] at h5);refine Ok.some' ?_;(try simp only [N]);omega
  (try simp only [B] at h5);refine Ok.same (kS ?_) ?_
  ·(try simp only [N]);omega
  refine Ok.guard ?_ ?_
  ·(try simp only [N]);omega
  refine Ok.bind (EU ?_ ?_ ?_ ?_ ?_ ?_ ?_ ?_) (fun r12 aW=>?_)
  iterate 8 (·(try simp only [N]);omega)
  (try simp only [N] at aW);refine fW _ ?_;(try simp only [N]);omega
 (try simp only [B] at h4);refine Ok.join (fun y13:G.World=>wt y13≤wt a0+5100000∧wt y13.Clients+wt y13.S≤wt a0.Clients+wt a0.S+61000∧TW y13) (fun y13 RW=>?_) (fun k14 ZV=>?_)
 ·(try simp only [N] at RW);refine fW _ ?_;(try simp only [N]);omega
 refine Ok.cond' (fun h6=>?_) (fun h6=>?_)
 ·(try simp only [B] at h6);refine Ok.chk ?_ ?_
  ·(try simp only [B]);omega
  refine Ok.bind (Ok.get ?_) (fun e15 kY=>?_)
  ·(try simp only [N]);omega
  have IX:=wA kY;(try simp only [N] at IX);have d9:=uE kY;(try simp only [N] at d9);have hve15:=ZJ kY;(try simp only [N] at hve15);refine Ok.bind (zs5 ?_ ?_) (fun r16 qX=>?_)
  iterate 2 (·(try simp only [N]);omega)
  (try simp only [N] at qX);refine Ok.cond' (fun h7=>?_) (fun h7=>?_)
  ·(try simp only [B] at h7);refine Ok.some' ?_;(try simp only [N]);omega
  (try simp only [B] at h7);refine Ok.bind (EU ?_ ?_ ?_ ?_ ?_ ?_ ?_ ?_) (fun r17 rX=>?_)
  iterate 8 (·(try simp only [N]);omega)
  (try simp only [N] at rX);refine ZV _ ?_;(try simp only [N]);omega
 (try simp only [B] at h6);refine Ok.join (fun y18:G.World=>wt y18≤wt a0+5100000∧wt y18.Clients+wt y18.S≤wt a0.Clients+wt a0.S+61000∧TW y18) (fun y18 XX=>?_) (fun k19 HW=>?_)
 ·(try simp only [N] at XX);refine ZV _ ?_;(try simp only [N]);omega
 refine Ok.cond' (fun h8=>?_) (fun h8=>?_)
 ·(try simp only [B] at h8);refine Ok.bind (ztA ?_ ?_) (fun r20 wX=>?_)
  iterate 2 (·(try simp only [N]);omega)
  (try simp only [N] at wX);refine Ok.cond' (fun h9=>?_) (fun h9=>?_)
  ·(try simp only [B] at h9);refine Ok.some' ?_;(try simp only [N]);omega
  (try simp only [B] at h9);refine Ok.bind (zgJ ?_) (fun r21 xZ=>?_)
  ·(try simp only [N]);omega
  (try simp only [N] at xZ);refine Ok.bind (vM ?_ ?_ ?_ ?_) (fun r22 PW=>?_)
  iterate 4 (·(try simp only [N]);omega)
  (try simp only [N] at PW);refine HW _ ?_;(try simp only [N]);omega
 (try simp only [B] at h8);refine Ok.join (fun y23:G.World=>wt y23≤wt a0+5100000∧wt y23.Clients+wt y23.S≤wt a0.Clients+wt a0.S+61000∧TW y23) (fun y23 xX=>?_) (fun k24 zW=>?_)
 ·(try simp only [N] at xX);refine HW _ ?_;(try simp only [N]);omega
 refine Ok.cond' (fun oW=>?_) (fun oW=>?_)
 ·(try simp only [B] at oW);refine Ok.cond' (fun gW=>?_) (fun gW=>?_)
  ·(try simp only [B] at gW);refine Ok.some' ?_;(try simp only [N]);omega
  (try simp only [B] at gW);refine Ok.bind (zut ?_ ?_) (fun r25 QW=>?_)
  iterate 2 (·(try simp only [N]);omega)
  (try simp only [N] at QW);refine Ok.bind (vM ?_ ?_ ?_ ?_) (fun r26 xY=>?_)
  iterate 4 (·(try simp only [N]);omega)
  (try simp only [N] at xY);refine zW _ ?_;(try simp only [N]);omega
 (try simp only [B] at oW);refine Ok.join (fun y27:G.World=>wt y27≤wt a0+5100000∧wt y27.Clients+wt y27.S≤wt a0.Clients+wt a0.S+61000∧TW y27) (fun y27 ZY=>?_) (fun k28 pX=>?_)
 ·(try simp only [N] at ZY);refine zW _ ?_;(try simp only [N]);omega
 refine Ok.cond' (fun FW=>?_) (fun FW=>?_)
 ·(try simp only [B] at FW);refine Ok.chk ?_ ?_
  ·(try simp only [B]);omega
  refine Ok.bind (Ok.get ?_) (fun e29 TY=>?_)
  ·(try simp only [N]);omega
  have t8:=wA TY;(try simp only [N] at t8);have g9:=uE TY;(try simp only [N] at g9);have hve29:=ZJ TY;(try simp only [N] at hve29);refine Ok.bind (ztv ?_) (fun r31 XZ=>?_)
  ·(try have:=zA (a:=1) (b:=(GA .i64 a1.N 30)) (by omega) (by omega));(try simp only [N]);omega
  (try simp only [N] at XZ);refine Ok.chk ?_ ?_
  ·(try simp only [B]);omega
  refine Ok.bind (Ok.get ?_) (fun e32 KZ=>?_)
  ·(try simp only [N]);omega
  have iZ:=wA KZ;(try simp only [N] at iZ);obtain rfl:e29=e32:=Option.some.inj (TY.symm.trans KZ);have EY:=pI (l:=a0.Clients) (i:=(GA .i64 a1.I 2).toNat) (x:=r31) (by have:=uE TY;omega) (xI TY) 0;(try simp only [N] at EY)
  have QX:=pI (l:=a0.Clients) (i:=(GA .i64 a1.I 2).toNat) (x:=r31) (by have:=uE TY;omega) (xI TY) 1;(try simp only [N] at QX);have P4:=MM (x:=r31) TY;(try simp only [N] at P4);refine pX _ ?_;have:=EB a0.Clients ((GA .i64 a1.I 2).toNat) r31;(try simp only [N] at this);(try simp only [N]);omega
 (try simp only [B] at FW);refine Ok.join (fun y33:G.World=>wt y33≤wt a0+5100000∧wt y33.Clients+wt y33.S≤wt a0.Clients+wt a0.S+61000∧TW y33) (fun y33 U4=>?_) (fun k34 OZ=>?_)
 ·(try simp only [N] at U4);refine pX _ ?_;(try simp only [N]);omega
 refine Ok.cond' (fun UW=>?_) (fun UW=>?_)
 ·(try simp only [B] at UW);refine Ok.chk ?_ ?_
  ·(try simp only [B]);omega
  refine Ok.bind (Ok.get ?_) (fun e35 V5=>?_)
  ·(try simp only [N]);omega
  have z8:=wA V5;(try simp only [N] at z8);have i9:=uE V5;(try simp only [N] at i9);have hve35:=ZJ V5;(try simp only [N] at hve35);refine Ok.bind (zs4 ?_) (fun r36 yZ=>?_)
  ·(try simp only [N]);omega
  (try simp only [N] at yZ);refine Ok.cond' (fun mX=>?_) (fun mX=>?_)
  ·(try simp only [B] at mX);refine Ok.some' ?_;(try simp only [N]);omega
  (try simp only [B] at mX);refine Ok.bind (EU ?_ ?_ ?_ ?_ ?_ ?_ ?_ ?_) (fun r37 ZZ=>?_)
  iterate 8 (·(try simp only [N]);omega)
  (try simp only [N] at ZZ);refine OZ _ ?_;(try simp only [N]);omega
 (try simp only [B] at UW);refine Ok.join (fun y38:G.World=>wt y38≤wt a0+5100000∧wt y38.Clients+wt y38.S≤wt a0.Clients+wt a0.S+61000∧TW y38) (fun y38 V3=>?_) (fun k39 rZ=>?_)
 ·(try simp only [N] at V3);refine OZ _ ?_;(try simp only [N]);omega
 refine Ok.cond' (fun yX=>?_) (fun yX=>?_)
 ·(try simp only [B] at yX);refine Ok.bind (zfJ ?_ ?_) (fun r40 K3=>?_)
  iterate 2 (·(try simp only [N]);omega)
  (try simp only [N] at K3);refine Ok.cond' (fun PX=>?_) (fun PX=>?_)
  ·(try simp only [B] at PX);refine Ok.some' ?_;(try simp only [N]);omega
  (try simp only [B] at PX);refine Ok.bind (pP ?_ ?_ ?_ ?_) (fun r41 j0=>?_)
  iterate 4 (·(try simp only [N]);omega)
  (try simp only [N] at j0);refine rZ _ ?_;(try simp only [N]);omega
 (try simp only [B] at yX);refine Ok.join (fun y42:G.World=>wt y42≤wt a0+5100000∧wt y42.Clients+wt y42.S≤wt a0.Clients+wt a0.S+61000∧TW y42) (fun y42 W3=>?_) (fun k43 sZ=>?_)
 ·(try simp only [N] at W3);refine rZ _ ?_;(try simp only [N]);omega
 refine Ok.cond' (fun SX=>?_) (fun SX=>?_)
 ·(try simp only [B] at SX);refine Ok.bind (pP ?_ ?_ ?_ ?_) (fun r45 hr45=>?_)
  iterate 4 (·(try simp only [N]);omega)
  (try simp only [N] at hr45);refine sZ _ ?_;(try simp only [N]);omega
 (try simp only [B] at SX);refine Ok.join (fun y46:G.World=>wt y46≤wt a0+5100000∧wt y46.Clients+wt y46.S≤wt a0.Clients+wt a0.S+61000∧TW y46) (fun y46 B7=>?_) (fun k47 Z2=>?_)
 ·(try simp only [N] at B7);refine sZ _ ?_;(try simp only [N]);omega
 refine Ok.cond' (fun fZ=>?_) (fun fZ=>?_)
 ·(try simp only [B] at fZ);refine Ok.bind (pP ?_ ?_ ?_ ?_) (fun r48 T6=>?_)
  iterate 4 (·(try simp only [N]);omega)
  (try simp only [N] at T6);refine Z2 _ ?_;(try simp only [N]);omega
 (try simp only [B] at fZ);refine Ok.join (fun y49:G.World=>wt y49≤wt a0+5100000∧wt y49.Clients+wt y49.S≤wt a0.Clients+wt a0.S+61000∧TW y49) (fun y49 X3=>?_) (fun k50 d3=>?_)
 ·(try simp only [N] at X3);refine Z2 _ ?_;(try simp only [N]);omega
 refine Ok.cond' (fun CZ=>?_) (fun CZ=>?_)
 ·(try simp only [B] at CZ);refine Ok.bind (zfJ ?_ ?_) (fun r51 hr51=>?_)
  iterate 2 (·(try simp only [N]);omega)
  (try simp only [N] at hr51);refine Ok.joinR (fun y52:Bool=>y52=false→0≤r51∧0<y3.B.length) (fun k53 t9=>?_) (fun y52 D7=>?_)
  ·refine Ok.cond' (fun gZ=>?_) (fun gZ=>?_)
   ·exact t9 _ fun h=>nomatch h
   (try simp only [B] at gZ);refine t9 _ fun q21=>?_;(try simp only [B] at q21);(try simp only [N]);omega
  refine Ok.cond' (fun HZ=>?_) (fun HZ=>?_)
  ·refine Ok.some' ?_;(try simp only [N]);omega
  replace D7:=D7 HZ;(try simp only [N] at D7);have hd4:=sI (a:=a1.N) (n:=(([]++y3.B).length:Int)) (by omega) (by simp only [N];omega);(try simp only [N] at hd4);refine Ok.guard ?_ ?_
  ·(try simp only [N]);omega
  refine Ok.chkn ?_ ?_
  ·(try simp only [B,N]);omega
  refine Ok.chk ?_ ?_
  ·(try simp only [B,N]);omega
  refine Ok.bind (Ok.get ?_) (fun e55 he55=>?_)
  ·(try simp only [N]);omega
  have I8:=wA he55;(try simp only [N] at I8);refine Ok.chk ?_ ?_
  ·(try simp only [B,N]);omega
  refine Ok.bind (Ok.get ?_) (fun e57 d6=>?_)
  ·(try simp only [N]);omega
  have J2:=wA d6;(try simp only [N] at J2);refine Ok.bind (pP ?_ ?_ ?_ ?_) (fun r59 L3=>?_)
  iterate 4 (·(try have:=zA (a:=1) (b:=(GA .i64 a1.J 255)) (by omega) (by omega));have:=EB ([]++y3.B) (GA .i64 a1.N (([]++y3.B).length:Int):Int).toNat (UInt8.ofNat (bC .u8 ((e55.toNat:Nat):Int) (IntKind.wrap .u8 (cA .i64 1 (GA .i64 a1.J 255)):Int):Int).toNat);(try simp only [N] at this);(try simp only [N]);omega)
  (try simp only [N] at L3);refine d3 _ ?_;(try simp only [N]);omega
 (try simp only [B] at CZ);refine Ok.join (fun y60:G.World=>wt y60≤wt a0+5100000∧wt y60.Clients+wt y60.S≤wt a0.Clients+wt a0.S+61000∧TW y60) (fun y60 Y3=>?_) (fun k61 tZ=>?_)
 ·(try simp only [N] at Y3);refine d3 _ ?_;(try simp only [N]);omega
 refine Ok.cond' (fun aZ=>?_) (fun aZ=>?_)
 ·(try simp only [B] at aZ);refine Ok.bind (zs8 ?_ ?_ ?_) (fun r62 hr62=>?_)
  iterate 3 (·(try simp only [N]);omega)
  (try simp only [N] at hr62);refine Ok.cond' (fun DZ=>?_) (fun DZ=>?_)
  ·(try simp only [B] at DZ);refine Ok.some' ?_;(try simp only [N]);omega
  (try simp only [B] at DZ);refine Ok.bind (pP ?_ ?_ ?_ ?_) (fun r64 hr64=>?_)
  iterate 4 (·(try simp only [N]);omega)
  (try simp only [N] at hr64);refine tZ _ ?_;(try simp only [N]);omega
 (try simp only [B] at aZ);refine Ok.join (fun y65:G.World=>wt y65≤wt a0+5100000∧wt y65.Clients+wt y65.S≤wt a0.Clients+wt a0.S+61000∧TW y65) (fun y65 G7=>?_) (fun k66 A3=>?_)
 ·(try simp only [N] at G7);refine tZ _ ?_;(try simp only [N]);omega
 refine Ok.cond' (fun N1=>?_) (fun N1=>?_)
 ·(try simp only [B] at N1);refine Ok.bind (zsZ ?_) (fun r67 m0=>?_)
  ·(try simp only [N]);omega
  (try simp only [N] at m0);have hl67:=CB r67.2;(try simp only [N] at hl67);refine Ok.cond' (fun Q0=>?_) (fun Q0=>?_)
  ·(try simp only [B] at Q0);refine Ok.some' ?_;(try simp only [N]);omega
  (try simp only [B] at Q0);refine Ok.bind (vM ?_ ?_ ?_ ?_) (fun r68 Y6=>?_)
  iterate 4 (·(try simp only [N]);omega)
  (try simp only [N] at Y6);refine A3 _ ?_;(try simp only [N]);omega
 (try simp only [B] at N1);refine Ok.join (fun y69:G.World=>wt y69≤wt a0+5100000∧wt y69.Clients+wt y69.S≤wt a0.Clients+wt a0.S+61000∧TW y69) (fun y69 I7=>?_) (fun k70 B3=>?_)
 ·(try simp only [N] at I7);refine A3 _ ?_;(try simp only [N]);omega
 refine Ok.cond' (fun S0=>?_) (fun S0=>?_)
 ·(try simp only [B] at S0);refine Ok.chk ?_ ?_
  ·(try simp only [B]);omega
  refine Ok.bind (Ok.get ?_) (fun e71 s6=>?_)
  ·(try simp only [N]);omega
  have O2:=wA s6;(try simp only [N] at O2);refine Ok.cond' (fun t4=>?_) (fun t4=>?_)
  ·(try simp only [B] at t4);refine Ok.some' ?_;(try simp only [N]);omega
  (try simp only [B] at t4);refine Ok.chk ?_ ?_
  ·(try simp only [B]);omega
  refine Ok.bind (Ok.get ?_) (fun e72 P2=>?_)
  ·(try simp only [N]);omega
  have Q2:=wA P2;(try simp only [N] at Q2);have j9:=uE P2;(try simp only [N] at j9);have hve72:=ZJ P2;(try simp only [N] at hve72);refine Ok.bind (ztm ?_) (fun r73 hr73=>?_)
  ·(try simp only [N]);omega
  (try simp only [N] at hr73);refine Ok.bind (EU ?_ ?_ ?_ ?_ ?_ ?_ ?_ ?_) (fun r74 hr74=>?_)
  iterate 8 (·(try simp only [N]);omega)
  (try simp only [N] at hr74);refine B3 _ ?_;(try simp only [N]);omega
 (try simp only [B] at S0);refine Ok.join (fun y75:G.World=>wt y75≤wt a0+5100000∧wt y75.Clients+wt y75.S≤wt a0.Clients+wt a0.S+61000∧TW y75) (fun y75 Z3=>?_) (fun k76 uZ=>?_)
 ·(try simp only [N] at Z3);refine B3 _ ?_;(try simp only [N]);omega
 refine Ok.cond' (fun v4=>?_) (fun v4=>?_)
 ·(try simp only [B] at v4);refine Ok.bind (zty ?_) (fun r77 Z6=>?_)
  ·(try simp only [N]);omega
  (try simp only [N] at Z6);refine Ok.cond' (fun z4=>?_) (fun z4=>?_)
  ·(try simp only [B] at z4);refine Ok.some' ?_;(try simp only [N]);omega
  (try simp only [B] at z4);refine Ok.bind (vM ?_ ?_ ?_ ?_) (fun r78 hr78=>?_)
  iterate 4 (·(try simp only [N]);omega)
  (try simp only [N] at hr78);refine uZ _ ?_;(try simp only [N]);omega
 (try simp only [B] at v4);refine Ok.cond' (fun A4=>?_) (fun A4=>?_)
 ·(try simp only [B] at A4);refine Ok.join (fun y79:Bool × G.World=>wt y79.2≤wt a0+5100000∧wt y79.2.Clients+wt y79.2.S≤wt a0.Clients+wt a0.S+61000∧TW y79.2) (fun y79 hy79=>?_) (fun k80 F9=>?_)
  ·(try simp only [N] at hy79);refine Ok.some' ?_;(try simp only [N]);omega
  refine Ok.chk ?_ ?_
  ·(try simp only [B]);omega
  refine Ok.bind (Ok.get ?_) (fun e81 t6=>?_)
  ·(try simp only [N]);omega
  have R2:=wA t6;(try simp only [N] at R2);refine Ok.condR (fun T7=>?_) (fun T7=>?_)
  ·(try simp only [B] at T7);refine F9 _ ?_;(try simp only [N]);omega
  (try simp only [B] at T7);refine Ok.chk ?_ ?_
  ·(try simp only [B]);omega
  refine Ok.bind (Ok.get ?_) (fun e82 S2=>?_)
  ·(try simp only [N]);omega
  have T2:=wA S2;(try simp only [N] at T2);have l9:=uE S2;(try simp only [N] at l9);have hve82:=ZJ S2;(try simp only [N] at hve82);refine Ok.bind (zgK ?_ ?_ ?_) (fun r83 hr83=>?_)
  iterate 3 (·(try simp only [N]);omega)
  (try simp only [N] at hr83);refine F9 _ ?_;(try simp only [N]);omega
 (try simp only [B] at A4);refine Ok.cond' (fun U7=>?_) (fun U7=>?_)
 ·(try simp only [B] at U7);refine Ok.join (fun y84:Bool × G.World=>wt y84.2≤wt a0+5100000∧wt y84.2.Clients+wt y84.2.S≤wt a0.Clients+wt a0.S+61000∧TW y84.2) (fun y84 hy84=>?_) (fun k85 G6=>?_)
  ·(try simp only [N] at hy84);refine Ok.some' ?_;(try simp only [N]);omega
  refine Ok.condR (fun V7=>?_) (fun V7=>?_)
  ·(try simp only [B] at V7);refine G6 _ ?_;(try simp only [N]);omega
  (try simp only [B] at V7);refine Ok.bind (Ok.idx ?_ ?_) (fun e86 he86=>?_)
  iterate 2 (·(try simp only [N]);omega)
  have Q8:=wA he86;(try simp only [N] at Q8);refine Ok.condR (fun W7=>?_) (fun W7=>?_)
  ·(try simp only [B] at W7);refine G6 _ ?_;(try simp only [N]);omega
  (try simp only [B] at W7);refine Ok.bind (Ok.idx ?_ ?_) (fun e87 he87=>?_)
  iterate 2 (·(try simp only [N]);omega)
  have R8:=wA he87;(try simp only [N] at R8);refine Ok.bind (zgK ?_ ?_ ?_) (fun r88 b7=>?_)
  iterate 3 (·(try simp only [N]);omega)
  (try simp only [N] at b7);refine G6 _ ?_;(try simp only [N]);omega
 (try simp only [B] at U7);refine Ok.join (fun y89:G.World=>wt y89≤wt a0+5100000∧wt y89.Clients+wt y89.S≤wt a0.Clients+wt a0.S+61000∧TW y89) (fun y89 J7=>?_) (fun k90 C3=>?_)
 ·(try simp only [N] at J7);refine uZ _ ?_;(try simp only [N]);omega
 refine Ok.condR (fun X7=>?_) (fun X7=>?_)
 ·(try simp only [B] at X7);refine C3 _ ?_;(try simp only [N]);omega
 (try simp only [B] at X7);refine Ok.join (fun y91:G.World=>wt y91≤wt a0+5100000∧wt y91.Clients+wt y91.S≤wt a0.Clients+wt a0.S+61000∧TW y91) (fun y91 hy91=>?_) (fun k92 J9=>?_)
 ·(try simp only [N] at hy91);refine C3 _ ?_;(try simp only [N]);omega
 refine Ok.cond' (fun Y7=>?_) (fun Y7=>?_)
 ·(try simp only [B] at Y7);refine Ok.bind (zgx ?_) (fun r93 hr93=>?_)
  ·(try simp only [N]);omega
  (try simp only [N] at hr93);refine J9 _ ?_;(try simp only [N]);omega
 (try simp only [B] at Y7);refine Ok.bind (zgx ?_) (fun r94 hr94=>?_)
 ·(try simp only [N]);omega
 (try simp only [N] at hr94);refine J9 _ ?_;(try simp only [N]);omega
theorem zux {a0:G.Cur} (ha:jA a0):Ok (IU.raw a0) fun r=>jA r.2∧wt r.1≤4000∧TW r.1:=by
 (try simp only [N] at ha);have hL:=qA
 unfold IU.raw
 refine Ok.bind (qB ?_ ?_) (fun r1 MV=>?_)
 iterate 2 (·(try simp only [N]);omega)
 (try simp only [N] at MV);refine Ok.bind (qB ?_ ?_) (fun r2 VV=>?_)
 iterate 2 (·(try simp only [N]);omega)
 (try simp only [N] at VV);refine Ok.bind (qB ?_ ?_) (fun r3 YV=>?_)
 iterate 2 (·(try simp only [N]);omega)
 (try simp only [N] at YV);refine Ok.bind (EA ?_) (fun r4 SV=>?_)
 ·(try simp only [N]);omega
 (try simp only [N] at SV);refine Ok.bind (zvm ?_ ?_) (fun r5 TV=>?_)
 iterate 2 (·(try have:=zA (a:=1) (b:=r4.1) (by omega) (by omega));(try simp only [N]);omega)
 (try simp only [N] at TV);refine Ok.some' ?_;(try simp only [N]);omega
theorem zuw {a0:G.Cur} {a1:Int} {a2:Bool} (ha:jA a0) (hb:a1≤40):Ok (HU.raw a0 a1 a2) fun r=>jA r.2.2.2∧wt r.2.2.1≤400000000∧TW r.2.2.1:=by
 (try simp only [N] at ha);(try simp only [N] at hb);have hL:=qA
 unfold HU.raw
 refine Ok.bind (zux ?_) (fun r1 MV=>?_)
 ·(try simp only [N]);omega
 (try simp only [N] at MV);refine Ok.same (XA ?_) ?_
 ·(try simp only [N]);omega
 refine Ok.bind (EA ?_) (fun r3 YV=>?_)
 ·(try simp only [N]);omega
 (try simp only [N] at YV);refine Ok.join (fun y4:(List G.Event) × G.Cur × Int × G.World=>jA y4.2.1∧wt y4.2.2.2≤400000000∧TW y4.2.2.2) (fun y4 aY=>?_) (fun k5 EW=>?_)
 ·(try simp only [N] at aY);refine Ok.some' ?_;(try simp only [N]);omega
 refine Ok.loopR (fun x6:(List G.Event) × Int × G.Cur × Int × G.World=>0≤x6.2.1∧x6.2.1≤60∧jA x6.2.2.1∧wt x6.1+3001 *x6.2.1≤200000∧TW x6.2.2.2.2∧wt x6.2.2.2.2+5100000 *x6.2.1≤320000000∧wt x6.2.2.2.2.Clients+wt x6.2.2.2.2.S+61000 *x6.2.1≤3700000) (fun x6=>x6.2.1.toNat) ?_ ?_ (fun x6 S4 k7 fW=>?_)
 iterate 2 (·(try have:=zA (a:=4) (b:=r3.1) (by omega) (by omega));(try simp only [N]);omega)
 (try simp only [N] at S4);refine Ok.condR (fun h1=>?_) (fun h1=>?_)
 ·(try simp only [B] at h1);refine EW _ ?_;(try simp only [N]);omega
 (try simp only [B] at h1);refine Ok.bind (zuy ?_ ?_ ?_) (fun r8 xW=>?_)
 iterate 3 (·(try simp only [N]);omega)
 (try simp only [N] at xW);refine Ok.guard ?_ ?_
 ·(try simp only [N]);omega
 refine Ok.same (XA ?_) ?_
 ·(try simp only [N]);omega
 refine Ok.join (fun y10:Bool × G.World=>wt y10.2≤wt x6.2.2.2.2+5100000∧wt y10.2.Clients+wt y10.2.S≤wt x6.2.2.2.2.Clients+wt x6.2.2.2.2.S+61000∧TW y10.2) (fun y10 SW=>?_) (fun k11 uW=>?_)
 ·(try simp only [N] at SW);refine Ok.join (fun y13:G.World × Unit=>wt y13.1≤wt x6.2.2.2.2+5100000∧wt y13.1.Clients+wt y13.1.S≤wt x6.2.2.2.2.Clients+wt x6.2.2.2.2.S+61000∧TW y13.1) (fun y13 RW=>?_) (fun k14 ZV=>?_)
  ·(try simp only [N] at RW);refine fW _ ?_ ?_
   iterate 2 (·(try have:=PA (a:=x6.2.1) (b:=1) (by omega) (by omega));(try simp only [N]);omega)
  refine Ok.cond' (fun h2=>?_) (fun h2=>?_)
  ·refine ZV _ ?_;(try simp only [N]);omega
  refine ZV _ ?_;(try simp only [N]);omega
 refine Ok.condR (fun h3=>?_) (fun h3=>?_)
 ·(try simp only [B] at h3);refine uW _ ?_;(try simp only [N]);omega
 (try simp only [B] at h3);refine Ok.condR (fun h4=>?_) (fun h4=>?_)
 ·(try simp only [B] at h4);refine uW _ ?_;(try simp only [N]);omega
 (try simp only [B] at h4);have f5:=zpO h4;(try simp only [N] at f5);refine Ok.bind (zuv ?_ ?_ ?_ ?_ ?_) (fun r12 aW=>?_)
 iterate 5 (·(try simp only [N]);omega)
 (try simp only [N] at aW);refine uW _ ?_;(try simp only [N]);omega
theorem zgL {a0:G.Cur} {a1:Int} (ha:jA a0) (hb:a1≤40):Ok (rP.raw a0 a1) fun r=>jA r.2∧wt r.1≤400000000∧TW r.1:=by
 (try simp only [N] at ha);(try simp only [N] at hb);have hL:=qA
 unfold rP.raw
 refine Ok.bind (zC ?_) (fun r1 MV=>?_)
 ·(try simp only [N]);omega
 (try simp only [N] at MV);refine Ok.bind (zuw ?_ ?_) (fun r2 VV=>?_)
 iterate 2 (·(try simp only [N]);omega)
 (try simp only [N] at VV);refine Ok.some' ?_;(try simp only [N]);omega
end Go.D
namespace Go.D
theorem hU {a0:G.Cur} (ha:jA a0):Ok (PJ.raw a0) fun r=>r.1.length≤12∧jA r.2:=by
 (try simp only [N] at ha);have hL:=qA
 unfold PJ.raw
 refine Ok.bind (EA ?_) (fun r1 MV=>?_)
 ·(try simp only [N]);omega
 (try simp only [N] at MV);refine Ok.join (fun y2:(List UInt8)=>y2.length≤12) (fun y2 WV=>?_) (fun k3 PV=>?_)
 ·(try simp only [N] at WV);refine Ok.some' ?_;(try simp only [N]);omega
 refine Ok.loopR (fun x4:(List UInt8) × Int=>0≤x4.2∧x4.2≤12∧(x4.1.length:Int)≤x4.2) (fun x4=>(12 - x4.2).toNat) ?_ ?_ (fun x4 B1 k5 EW=>?_)
 iterate 2 (·(try simp only [N]);omega)
 (try simp only [N] at B1);refine Ok.condR (fun h1=>?_) (fun h1=>?_)
 ·(try simp only [B] at h1);refine PV _ ?_;(try simp only [N]);omega
 (try simp only [B] at h1);refine Ok.guard ?_ ?_
 ·(try simp only [N]);omega
 refine EW _ ?_ ?_
 iterate 2 (·(try have:=zA (a:=x4.2) (b:=1) (by omega) (by omega));(try simp only [N]);omega)
theorem zt6 {a0:G.Cur} (ha:jA a0):Ok (fU.raw a0) fun r=>r.1.length≤32∧jA r.2:=by
 (try simp only [N] at ha);have hL:=qA
 unfold fU.raw
 refine Ok.bind (EA ?_) (fun r1 MV=>?_)
 ·(try simp only [N]);omega
 (try simp only [N] at MV);refine Ok.join (fun y2:(List UInt8)=>y2.length≤32) (fun y2 WV=>?_) (fun k3 PV=>?_)
 ·(try simp only [N] at WV);refine Ok.some' ?_;(try simp only [N]);omega
 refine Ok.loopR (fun x4:(List UInt8) × Int=>0≤x4.2∧x4.2≤32∧(x4.1.length:Int)≤x4.2) (fun x4=>(32 - x4.2).toNat) ?_ ?_ (fun x4 B1 k5 EW=>?_)
 iterate 2 (·(try simp only [N]);omega)
 (try simp only [N] at B1);refine Ok.condR (fun h1=>?_) (fun h1=>?_)
 ·(try simp only [B] at h1);refine PV _ ?_;(try simp only [N]);omega
 (try simp only [B] at h1);refine Ok.guard ?_ ?_
 ·(try simp only [N]);omega
 refine EW _ ?_ ?_
 iterate 2 (·(try have:=zA (a:=x4.2) (b:=1) (by omega) (by omega));(try simp only [N]);omega)
theorem zt5 {a0:G.Cur} (ha:jA a0):Ok (eU.raw a0) fun r=>wt r.1≤100∧jA r.2:=by
 (try simp only [N] at ha);have hL:=qA
 unfold eU.raw
 refine Ok.bind (EA ?_) (fun r1 MV=>?_)
 ·(try simp only [N]);omega
 (try simp only [N] at MV);refine Ok.bind (EA ?_) (fun r2 VV=>?_)
 ·(try simp only [N]);omega
 (try simp only [N] at VV);refine Ok.bind (EA ?_) (fun r3 YV=>?_)
 ·(try simp only [N]);omega
 (try simp only [N] at YV);refine Ok.bind (EA ?_) (fun r4 SV=>?_)
 ·(try simp only [N]);omega
 (try simp only [N] at SV);refine Ok.bind (EA ?_) (fun r5 TV=>?_)
 ·(try simp only [N]);omega
 (try simp only [N] at TV);refine Ok.bind (hU ?_) (fun r6 lW=>?_)
 ·(try simp only [N]);omega
 (try simp only [N] at lW);refine Ok.bind (hU ?_) (fun r7 KW=>?_)
 ·(try simp only [N]);omega
 (try simp only [N] at KW);refine Ok.bind (zt6 ?_) (fun r8 xW=>?_)
 ·(try simp only [N]);omega
 (try simp only [N] at xW);refine Ok.bind (hU ?_) (fun r9 gX=>?_)
 ·(try simp only [N]);omega
 (try simp only [N] at gX);refine Ok.bind (EA ?_) (fun r10 BW=>?_)
 ·(try simp only [N]);omega
 (try simp only [N] at BW);refine Ok.bind (EA ?_) (fun r12 aW=>?_)
 ·(try simp only [N]);omega
 (try simp only [N] at aW);refine Ok.some' ?_;(try have:=zA (a:=1) (b:=r1.1) (by omega) (by omega));(try simp only [N]);omega
theorem zuA {a0:G.Cur} (ha:jA a0):Ok (LU.raw a0) fun r=>jA r.2:=by
 (try simp only [N] at ha);have hL:=qA
 unfold LU.raw
 refine Ok.bind (zC ?_) (fun r1 MV=>?_)
 ·(try simp only [N]);omega
 (try simp only [N] at MV);refine Ok.condR (fun h1=>?_) (fun h1=>?_)
 ·(try simp only [B] at h1);refine Ok.bind (EA ?_) (fun r5 TV=>?_)
  ·(try simp only [N]);omega
  (try simp only [N] at TV);refine Ok.some' ?_;(try simp only [N]);omega
 (try simp only [B] at h1);refine Ok.bind (EA ?_) (fun r2 VV=>?_)
 ·(try simp only [N]);omega
 (try simp only [N] at VV);refine Ok.bind (zub ?_) (fun r3 YV=>?_)
 ·(try simp only [N]);omega
 (try simp only [N] at YV);refine Ok.bind (EA ?_) (fun r4 SV=>?_)
 ·(try simp only [N]);omega
 (try simp only [N] at SV);refine Ok.some' ?_;(try have:=zA (a:=(LB .i64 r2.1 256)) (b:=r3.1) (by omega) (by omega));(try simp only [N]);omega
theorem UJ {a0:G.Cur} (ha:jA a0):Ok (jH.raw a0) fun r=>jA r.2:=by
 (try simp only [N] at ha);have hL:=qA
 unfold jH.raw
 refine Ok.bind (zuA ?_) (fun r1 MV=>?_)
 ·(try simp only [N]);omega
 (try simp only [N] at MV);refine Ok.bind (EA ?_) (fun r2 VV=>?_)
 ·(try simp only [N]);omega
 (try simp only [N] at VV);refine Ok.join (fun y3:G.Cur × G.Addr=>jA y3.1) (fun y3 cX=>?_) (fun k4 bW=>?_)
 ·(try simp only [N] at cX);refine Ok.some' ?_;(try simp only [N]);omega
 refine Ok.cond' (fun h1=>?_) (fun h1=>?_)
 ·(try simp only [B] at h1);refine Ok.bind (zuc ?_) (fun r5 TV=>?_)
  ·(try simp only [N]);omega
  (try simp only [N] at TV);refine bW _ ?_;(try simp only [N]);omega
 (try simp only [B] at h1);refine Ok.join (fun y6:G.Cur × G.Addr=>jA y6.1) (fun y6 WW=>?_) (fun k7 fW=>?_)
 ·(try simp only [N] at WW);refine bW _ ?_;(try simp only [N]);omega
 refine Ok.condR (fun h2=>?_) (fun h2=>?_)
 ·(try simp only [B] at h2);refine fW _ ?_;(try simp only [N]);omega
 (try simp only [B] at h2);refine Ok.bind (TA (-1) (65536) ?_ (by simp) (by decide)) (fun r8 xW=>?_)
 ·(try simp only [N]);omega
 (try simp only [N] at xW);refine fW _ ?_;(try simp only [N]);omega
theorem zgE {a0:G.Cur} (ha:jA a0):Ok (gP.raw a0) fun r=>wt r.1≤250∧jA r.2:=by
 (try simp only [N] at ha);have hL:=qA
 unfold gP.raw
 refine Ok.bind (zt5 ?_) (fun r1 MV=>?_)
 ·(try simp only [N]);omega
 (try simp only [N] at MV);refine Ok.bind (EA ?_) (fun r2 VV=>?_)
 ·(try simp only [N]);omega
 (try simp only [N] at VV);refine Ok.join (fun y3:G.Cur × G.Note=>jA y3.1∧wt y3.2≤250) (fun y3 cX=>?_) (fun k4 bW=>?_)
 ·(try simp only [N] at cX);refine Ok.some' ?_;(try simp only [N]);omega
 refine Ok.cond' (fun h1=>?_) (fun h1=>?_)
 ·(try simp only [B] at h1);refine Ok.bind (TA (-1) (18) ?_ (by simp) (by decide)) (fun r5 TV=>?_)
  ·(try simp only [N]);omega
  (try simp only [N] at TV);refine bW _ ?_;(try simp only [N]);omega
 (try simp only [B] at h1);refine Ok.join (fun y6:G.Cur × G.Note=>jA y6.1∧wt y6.2≤250) (fun y6 WW=>?_) (fun k7 fW=>?_)
 ·(try simp only [N] at WW);refine bW _ ?_;(try simp only [N]);omega
 refine Ok.cond' (fun h2=>?_) (fun h2=>?_)
 ·(try simp only [B] at h2);refine Ok.bind (TA (-1) (10) ?_ (by simp) (by decide)) (fun r8 xW=>?_)
  ·(try simp only [N]);omega
  (try simp only [N] at xW);refine fW _ ?_;(try simp only [N]);omega
 (try simp only [B] at h2);refine Ok.join (fun y9:G.Cur × G.Note=>jA y9.1∧wt y9.2≤250) (fun y9 dY=>?_) (fun k10 XV=>?_)
 ·(try simp only [N] at dY);refine fW _ ?_;(try simp only [N]);omega
 refine Ok.cond' (fun h3=>?_) (fun h3=>?_)
 ·(try simp only [B] at h3);refine Ok.bind (TA (-1) (2) ?_ (by simp) (by decide)) (fun r11 vW=>?_)
  ·(try simp only [N]);omega
  (try simp only [N] at vW);refine XV _ ?_;(try simp only [N]);omega
 (try simp only [B] at h3);refine Ok.join (fun y12:G.Cur × G.Note=>jA y12.1∧wt y12.2≤250) (fun y12 OX=>?_) (fun k13 GW=>?_)
 ·(try simp only [N] at OX);refine XV _ ?_;(try simp only [N]);omega
 refine Ok.cond' (fun h4=>?_) (fun h4=>?_)
 ·(try simp only [B] at h4);refine Ok.bind (TA (0) (11) ?_ (by simp) (by decide)) (fun r14 OW=>?_)
  ·(try simp only [N]);omega
  (try simp only [N] at OW);refine Ok.bind (qB ?_ ?_) (fun r15 tW=>?_)
  iterate 2 (·(try simp only [N]);omega)
  (try simp only [N] at tW);refine GW _ ?_;(try simp only [N]);omega
 (try simp only [B] at h4);refine Ok.join (fun y16:G.Cur × G.Note=>jA y16.1∧wt y16.2≤250) (fun y16 XW=>?_) (fun k17 pW=>?_)
 ·(try simp only [N] at XW);refine GW _ ?_;(try simp only [N]);omega
 refine Ok.cond' (fun h5=>?_) (fun h5=>?_)
 ·(try simp only [B] at h5);refine Ok.bind (TA (0) (13) ?_ (by simp) (by decide)) (fun r18 sX=>?_)
  ·(try simp only [N]);omega
  (try simp only [N] at sX);refine Ok.bind (qB ?_ ?_) (fun r19 fX=>?_)
  iterate 2 (·(try simp only [N]);omega)
  (try simp only [N] at fX);refine pW _ ?_;(try simp only [N]);omega
 (try simp only [B] at h5);refine Ok.join (fun y20:G.Cur × G.Note=>jA y20.1∧wt y20.2≤250) (fun y20 bX=>?_) (fun k21 sW=>?_)
 ·(try simp only [N] at bX);refine pW _ ?_;(try simp only [N]);omega
 refine Ok.cond' (fun h6=>?_) (fun h6=>?_)
 ·(try simp only [B] at h6);refine Ok.bind (TA (-1) (4294967296) ?_ (by simp) (by decide)) (fun r22 PW=>?_)
  ·(try simp only [N]);omega
  (try simp only [N] at PW);refine sW _ ?_;(try simp only [N]);omega
 (try simp only [B] at h6);refine Ok.join (fun y23:G.Cur × G.Note=>jA y23.1∧wt y23.2≤250) (fun y23 xX=>?_) (fun k24 zW=>?_)
 ·(try simp only [N] at xX);refine sW _ ?_;(try simp only [N]);omega
 refine Ok.cond' (fun h7=>?_) (fun h7=>?_)
 ·(try simp only [B] at h7);refine Ok.bind (TA (-1) (281474976710656) ?_ (by simp) (by decide)) (fun r25 QW=>?_)
  ·(try simp only [N]);omega
  (try simp only [N] at QW);refine zW _ ?_;(try simp only [N]);omega
 (try simp only [B] at h7);refine Ok.join (fun y26:G.Cur × G.Note=>jA y26.1∧wt y26.2≤250) (fun y26 DY=>?_) (fun k27 oX=>?_)
 ·(try simp only [N] at DY);refine zW _ ?_;(try simp only [N]);omega
 refine Ok.cond' (fun h8=>?_) (fun h8=>?_)
 ·(try simp only [B] at h8);refine Ok.bind (TA (0) (101) ?_ (by simp) (by decide)) (fun r28 VZ=>?_)
  ·(try simp only [N]);omega
  (try simp only [N] at VZ);refine Ok.bind (qB ?_ ?_) (fun r29 yY=>?_)
  iterate 2 (·(try simp only [N]);omega)
  (try simp only [N] at yY);refine oX _ ?_;(try simp only [N]);omega
 (try simp only [B] at h8);refine Ok.join (fun y30:G.Cur × G.Note=>jA y30.1∧wt y30.2≤250) (fun y30 A7=>?_) (fun k31 Y2=>?_)
 ·(try simp only [N] at A7);refine oX _ ?_;(try simp only [N]);omega
 refine Ok.cond' (fun h9=>?_) (fun h9=>?_)
 ·(try simp only [B] at h9);refine Ok.bind (TA (0) (31) ?_ (by simp) (by decide)) (fun r32 R6=>?_)
  ·(try simp only [N]);omega
  (try simp only [N] at R6);refine Ok.bind (qB ?_ ?_) (fun r33 J3=>?_)
  iterate 2 (·(try simp only [N]);omega)
  (try simp only [N] at J3);refine Y2 _ ?_;(try simp only [N]);omega
 (try simp only [B] at h9);refine Ok.join (fun y34:G.Cur × G.Note=>jA y34.1∧wt y34.2≤250) (fun y34 B0=>?_) (fun k35 pY=>?_)
 ·(try simp only [N] at B0);refine Y2 _ ?_;(try simp only [N]);omega
 refine Ok.cond' (fun oW=>?_) (fun oW=>?_)
 ·(try simp only [B] at oW);refine Ok.bind (UJ ?_) (fun r36 yZ=>?_)
  ·(try simp only [N]);omega
  (try simp only [N] at yZ);refine pY _ ?_;(try simp only [N]);omega
 (try simp only [B] at oW);refine Ok.join (fun y37:G.Cur × G.Note=>jA y37.1∧wt y37.2≤250) (fun y37 hy37=>?_) (fun k38 p9=>?_)
 ·(try simp only [N] at hy37);refine pY _ ?_;(try simp only [N]);omega
 refine Ok.condR (fun gW=>?_) (fun gW=>?_)
 ·(try simp only [B] at gW);refine p9 _ ?_;(try simp only [N]);omega
 (try simp only [B] at gW);refine Ok.bind (TA (-1) (1000001) ?_ (by simp) (by decide)) (fun r39 hr39=>?_)
 ·(try simp only [N]);omega
 (try simp only [N] at hr39);refine p9 _ ?_;(try simp only [N]);omega
theorem zt7 {a0:G.Cur} {a1:Int} (ha:jA a0) (hb:0≤a1∧a1≤100):Ok (gU.raw a0 a1) fun r=>wt r.1≤26000∧jA r.2:=by
 (try simp only [N] at ha);(try simp only [N] at hb);have hL:=qA;have hi:=zA (a:=a1) (b:=1) (by omega) (by omega);(try simp only [N] at hi)
 unfold gU.raw
 refine Ok.bind (EA ?_) (fun r1 MV=>?_)
 ·(try have:=zA (a:=a1) (b:=1) (by omega) (by omega));(try simp only [N]);omega
 (try simp only [N] at MV);refine Ok.join (fun y2:(List G.Note) × G.Cur=>wt y2.1≤26000∧jA y2.2) (fun y2 WV=>?_) (fun k3 PV=>?_)
 ·(try simp only [N] at WV);refine Ok.some' ?_;(try simp only [N]);omega
 refine Ok.loopR (fun x4:(List G.Note) × Int × G.Cur=>0≤x4.2.1∧x4.2.1≤101∧wt x4.1+251 *x4.2.1≤25400∧jA x4.2.2) (fun x4=>x4.2.1.toNat) ?_ ?_ (fun x4 B1 k5 EW=>?_)
 iterate 2 (·(try simp only [N]);omega)
 (try simp only [N] at B1);refine Ok.condR (fun h1=>?_) (fun h1=>?_)
 ·(try simp only [B] at h1);refine PV _ ?_;(try simp only [N]);omega
 (try simp only [B] at h1);refine Ok.bind (zgE ?_) (fun r6 lW=>?_)
 ·(try simp only [N]);omega
 (try simp only [N] at lW);refine Ok.guard ?_ ?_
 ·(try simp only [N]);omega
 refine EW _ ?_ ?_
 iterate 2 (·(try have:=PA (a:=x4.2.1) (b:=1) (by omega) (by omega));(try simp only [N]);omega)
theorem zgM {a0:G.Cur} {a1:Int} (ha:jA a0) (hb:a1≤40):Ok (sP.raw a0 a1) fun r=>wt r.1≤3000000000∧jA r.2:=by
 (try simp only [N] at ha);(try simp only [N] at hb);have hL:=qA
 unfold sP.raw
 refine Ok.bind (zgL ?_ ?_) (fun r1 MV=>?_)
 iterate 2 (·(try simp only [N]);omega)
 (try simp only [N] at MV);have mW:=CB r1.1.Notes;(try simp only [N] at mW);refine Ok.same (XA ?_) ?_
 ·(try simp only [N,eq_self,true_or]);omega
 refine Ok.bind (zC ?_) (fun r3 YV=>?_)
 ·(try simp only [N]);omega
 (try simp only [N] at YV);refine Ok.cond' (fun h1=>?_) (fun h1=>?_)
 ·(try simp only [B] at h1);refine Ok.bind (zt7 ?_ ?_) (fun r4 SV=>?_)
  iterate 2 (·(try simp only [N]);omega)
  (try simp only [N] at SV);refine Ok.some' ?_;(try simp only [N]);omega
 (try simp only [B] at h1);refine Ok.joinR (fun y5:(List G.Note) × G.Cur=>wt y5.1≤400000000∧jA y5.2) (fun k6 kX=>?_) (fun y5 AZ=>?_)
 ·refine Ok.condR (fun h2=>?_) (fun h2=>?_)
  ·(try simp only [B] at h2);refine kX _ ?_;(try simp only [N]);omega
  (try simp only [B] at h2);refine Ok.bind (EA ?_) (fun r7 KW=>?_)
  ·(try have:=PA (a:=(r1.1.Notes.length:Int)) (b:=34) (by omega) (by omega));(try simp only [N]);omega
  (try simp only [N] at KW);have hx7:=PA (a:=(r1.1.Notes.length:Int)) (b:=34) (by omega) (by omega);(try simp only [N] at hx7);refine Ok.bind (zC ?_) (fun r8 xW=>?_)
  ·(try simp only [N]);omega
  (try simp only [N] at xW);refine Ok.joinR (fun y9:Int=>0≤y9∧y9+34≤(r1.1.Notes.length:Int)) (fun k10 XV=>?_) (fun y9 dY=>?_)
  ·refine Ok.cond' (fun h3=>?_) (fun h3=>?_)
   ·(try simp only [B] at h3);refine XV _ ?_;(try simp only [N,eq_self,true_or]);omega
   (try simp only [B] at h3);refine XV _ ?_;(try simp only [N,eq_self,true_or]);omega
  (try simp only [N] at dY);refine Ok.chk ?_ ?_
  ·(try have:=zA (a:=y9) (b:=34) (by omega) (by omega));(try simp only [B]);omega
  refine Ok.same (XA ?_) ?_
  ·(try have:=zA (a:=y9) (b:=34) (by omega) (by omega));have:=FE (List.drop y9.toNat r1.1.Notes) ((cA .i64 y9 34 - y9).toNat);(try simp only [N] at this);have:=oH r1.1.Notes y9.toNat;(try simp only [N] at this);(try simp only [N,eq_self,true_or]);omega
  refine kX _ ?_;(try have:=zA (a:=y9) (b:=34) (by omega) (by omega));have:=FE (List.drop y9.toNat r1.1.Notes) ((cA .i64 y9 34 - y9).toNat);(try simp only [N] at this);have:=oH r1.1.Notes y9.toNat;(try simp only [N] at this);(try simp only [N]);omega
 (try simp only [N] at AZ);have hy5w:=CB y5.1;(try simp only [N] at hy5w);refine Ok.joinR (fun y12:Bool × G.Cur=>jA y12.2∧(y12.1=true∨0<y5.1.length)) (fun k13 GW=>?_) (fun y12 OX=>?_)
 ·refine Ok.cond' (fun h4=>?_) (fun h4=>?_)
  ·(try simp only [B] at h4);refine GW _ ?_;(try simp only [N,eq_self,true_or]);omega
  (try simp only [B] at h4);refine Ok.bind (zC ?_) (fun r14 OW=>?_)
  ·(try simp only [N]);omega
  (try simp only [N] at OW);refine GW _ ?_;(try simp only [N]);omega
 (try simp only [N] at OX);refine Ok.cond' (fun h5=>?_) (fun h5=>?_)
 ·refine Ok.some' ?_;(try simp only [N]);omega
 have Y0:=OX.2.resolve_left (by rw [h5];decide);refine Ok.bind (EA ?_) (fun r15 tW=>?_)
 ·(try simp only [N]);omega
 (try simp only [N] at tW);refine Ok.bind (EA ?_) (fun r16 qX=>?_)
 ·(try simp only [N]);omega
 (try simp only [N] at qX);refine Ok.bind (EA ?_) (fun r17 rX=>?_)
 ·(try simp only [N]);omega
 (try simp only [N] at rX);refine Ok.join (fun y18:(List G.Note) × G.Cur=>wt y18.1≤3000000000∧jA y18.2) (fun y18 XX=>?_) (fun k19 HW=>?_)
 ·(try simp only [N] at XX);refine Ok.some' ?_;(try simp only [N]);omega
 refine Ok.cond' (fun h6=>?_) (fun h6=>?_)
 ·(try simp only [B] at h6);refine Ok.chk ?_ ?_
  ·(try simp only [B]);omega
  refine Ok.bind (Ok.get ?_) (fun e20 he20=>?_)
  ·(try simp only [N,eq_self,true_or]);omega
  have n8:=wA he20;(try simp only [N] at n8);refine Ok.same (XA ?_) ?_
  ·(try simp only [N]);omega
  refine Ok.guard ?_ ?_
  ·(try simp only [N]);omega
  refine HW _ ?_;(try simp only [N]);omega
 (try simp only [B] at h6);refine Ok.join (fun y22:(List G.Note) × G.Cur=>wt y22.1≤3000000000∧jA y22.2) (fun y22 A0=>?_) (fun k23 nY=>?_)
 ·(try simp only [N] at A0);refine HW _ ?_;(try simp only [N]);omega
 refine Ok.cond' (fun h7=>?_) (fun h7=>?_)
 ·(try simp only [B] at h7);refine Ok.chk ?_ ?_
  ·(try simp only [B]);omega
  refine Ok.same (XA ?_) ?_
  ·have:=FE (List.drop 0 y5.1) ((r15.1 - 0).toNat);(try simp only [N] at this);have:=oH y5.1 0;(try simp only [N] at this);(try simp only [N,eq_self,true_or]);omega
  refine Ok.chk ?_ ?_
  ·(try have:=zA (a:=r15.1) (b:=1) (by omega) (by omega));(try simp only [B]);omega
  refine Ok.same (XA ?_) ?_
  ·(try have:=zA (a:=r15.1) (b:=1) (by omega) (by omega));have:=FE (List.drop ((cA .i64 r15.1 1).toNat) y5.1) (((y5.1.length:Int) - (cA .i64 r15.1 1)).toNat);(try simp only [N] at this);have:=oH y5.1 ((cA .i64 r15.1 1).toNat);(try simp only [N] at this);(try simp only [N,eq_self,true_or]);omega
  refine Ok.guard ?_ ?_
  ·(try have:=zA (a:=r15.1) (b:=1) (by omega) (by omega));have:=FE (List.drop 0 y5.1) ((r15.1 - 0).toNat);(try simp only [N] at this);have:=FE (List.drop ((cA .i64 r15.1 1).toNat) y5.1) (((y5.1.length:Int) - (cA .i64 r15.1 1)).toNat);(try simp only [N] at this);have:=oH y5.1 0;(try simp only [N] at this);have:=oH y5.1 ((cA .i64 r15.1 1).toNat)
   (try simp only [N] at this);(try simp only [N,eq_self,true_or]);omega
  refine nY _ ?_;(try have:=zA (a:=r15.1) (b:=1) (by omega) (by omega));have:=FE (List.drop 0 y5.1) ((r15.1 - 0).toNat);(try simp only [N] at this);have:=FE (List.drop ((cA .i64 r15.1 1).toNat) y5.1) (((y5.1.length:Int) - (cA .i64 r15.1 1)).toNat);(try simp only [N] at this);have:=oH y5.1 0;(try simp only [N] at this)
  have:=oH y5.1 ((cA .i64 r15.1 1).toNat);(try simp only [N] at this);(try simp only [N]);omega
 (try simp only [B] at h7);refine Ok.join (fun y26:(List G.Note) × G.Cur=>wt y26.1≤3000000000∧jA y26.2) (fun y26 DY=>?_) (fun k27 oX=>?_)
 ·(try simp only [N] at DY);refine nY _ ?_;(try simp only [N]);omega
 refine Ok.cond' (fun h8=>?_) (fun h8=>?_)
 ·(try simp only [B] at h8);refine Ok.chk ?_ ?_
  ·(try simp only [B]);omega
  refine Ok.bind (Ok.get ?_) (fun e28 U5=>?_)
  ·(try simp only [N,eq_self,true_or]);omega
  have X1:=wA U5;(try simp only [N] at X1);refine Ok.same (XA ?_) ?_
  ·(try simp only [N]);omega
  refine Ok.chk ?_ ?_
  ·(try simp only [B]);omega
  refine Ok.bind (Ok.get ?_) (fun e30 Y1=>?_)
  ·(try simp only [N,eq_self,true_or]);omega
  have Z1:=wA Y1;(try simp only [N] at Z1);refine oX _ ?_;have:=EB y5.1 r15.1.toNat (⟨e30.Kind,e30.Id,e30.Role,e30.Cn,e28.Sn,e30.Epoch,e30.Seq,e30.Body,e30.Key,e30.A,e30.Now⟩:G.Note);(try simp only [N] at this);(try simp only [N]);omega
 (try simp only [B] at h8);refine Ok.join (fun y32:(List G.Note) × G.Cur=>wt y32.1≤3000000000∧jA y32.2) (fun y32 C1=>?_) (fun k33 oY=>?_)
 ·(try simp only [N] at C1);refine oX _ ?_;(try simp only [N]);omega
 refine Ok.cond' (fun h9=>?_) (fun h9=>?_)
 ·(try simp only [B] at h9);refine Ok.chk ?_ ?_
  ·(try simp only [B]);omega
  refine Ok.bind (Ok.get ?_) (fun e34 he34=>?_)
  ·(try simp only [N,eq_self,true_or]);omega
  have w8:=wA he34;(try simp only [N] at w8);refine Ok.same (XA ?_) ?_
  ·(try simp only [N]);omega
  refine Ok.chk ?_ ?_
  ·(try simp only [B]);omega
  refine Ok.bind (Ok.get ?_) (fun e36 W5=>?_)
  ·(try simp only [N,eq_self,true_or]);omega
  have z2:=wA W5;(try simp only [N] at z2);refine oY _ ?_;have:=EB y5.1 r15.1.toNat (⟨e36.Kind,e36.Id,e36.Role,e36.Cn,e36.Sn,e36.Epoch,e36.Seq,e36.Body,e34.Key,e36.A,e36.Now⟩:G.Note);(try simp only [N] at this);(try simp only [N]);omega
 (try simp only [B] at h9);refine Ok.join (fun y38:G.Cur × (List G.Note)=>jA y38.1∧wt y38.2≤3000000000) (fun y38 V3=>?_) (fun k39 rZ=>?_)
 ·(try simp only [N] at V3);refine oY _ ?_;(try simp only [N]);omega
 refine Ok.cond' (fun oW=>?_) (fun oW=>?_)
 ·(try simp only [B] at oW);refine Ok.bind (hU ?_) (fun r40 K3=>?_)
  ·(try simp only [N]);omega
  (try simp only [N] at K3);refine Ok.chk ?_ ?_
  ·(try simp only [B]);omega
  refine Ok.bind (Ok.get ?_) (fun e41 I4=>?_)
  ·(try simp only [N,eq_self,true_or]);omega
  have C2:=wA I4;(try simp only [N] at C2);refine rZ _ ?_;have:=EB y5.1 r15.1.toNat (⟨e41.Kind,e41.Id,e41.Role,r40.1,e41.Sn,e41.Epoch,e41.Seq,e41.Body,e41.Key,e41.A,e41.Now⟩:G.Note);(try simp only [N] at this);(try simp only [N]);omega
 (try simp only [B] at oW);refine Ok.join (fun y43:(List G.Note) × G.Cur=>wt y43.1≤3000000000∧jA y43.2) (fun y43 hy43=>?_) (fun k44 q9=>?_)
 ·(try simp only [N] at hy43);refine rZ _ ?_;(try simp only [N]);omega
 refine Ok.cond' (fun gW=>?_) (fun gW=>?_)
 ·(try simp only [B] at gW);refine Ok.chk ?_ ?_
  ·(try simp only [B]);omega
  refine Ok.bind (Ok.get ?_) (fun e45 Y5=>?_)
  ·(try simp only [N,eq_self,true_or]);omega
  have D2:=wA Y5;(try simp only [N] at D2);refine Ok.chk ?_ ?_
  ·(try simp only [B]);omega
  refine Ok.bind (Ok.get ?_) (fun e46 Z5=>?_)
  ·(try simp only [N,eq_self,true_or]);omega
  have E2:=wA Z5;(try simp only [N] at E2);refine q9 _ ?_;(try have:=zA (a:=e45.Epoch) (b:=1) (by omega) (by omega));have:=EB y5.1 r15.1.toNat (⟨e46.Kind,e46.Id,e46.Role,e46.Cn,e46.Sn,cA .i64 e45.Epoch 1,e46.Seq,e46.Body,e46.Key,e46.A,e46.Now⟩:G.Note);(try simp only [N] at this);(try simp only [N]);omega
 (try simp only [B] at gW);refine Ok.join (fun y48:(List G.Note) × G.Cur=>wt y48.1≤3000000000∧jA y48.2) (fun y48 hy48=>?_) (fun k49 b3=>?_)
 ·(try simp only [N] at hy48);refine q9 _ ?_;(try simp only [N]);omega
 refine Ok.cond' (fun FW=>?_) (fun FW=>?_)
 ·(try simp only [B] at FW);refine Ok.chk ?_ ?_
  ·(try simp only [B]);omega
  refine Ok.bind (Ok.get ?_) (fun e50 he50=>?_)
  ·(try simp only [N,eq_self,true_or]);omega
  have F8:=wA he50;(try simp only [N] at F8);refine Ok.same (XA ?_) ?_
  ·(try simp only [N]);omega
  refine Ok.chk ?_ ?_
  ·(try simp only [B]);omega
  refine Ok.bind (Ok.get ?_) (fun e52 b6=>?_)
  ·(try simp only [N,eq_self,true_or]);omega
  have F2:=wA b6;(try simp only [N] at F2);refine b3 _ ?_;have:=EB y5.1 r15.1.toNat (⟨e52.Kind,e52.Id,e52.Role,e52.Cn,e52.Sn,e52.Epoch,e52.Seq,e50.Body,e52.Key,e52.A,e52.Now⟩:G.Note);(try simp only [N] at this);(try simp only [N]);omega
 (try simp only [B] at FW);refine Ok.join (fun y54:(List G.Note) × G.Cur=>wt y54.1≤3000000000∧jA y54.2) (fun y54 E7=>?_) (fun k55 v3=>?_)
 ·(try simp only [N] at E7);refine b3 _ ?_;(try simp only [N]);omega
 refine Ok.cond' (fun UW=>?_) (fun UW=>?_)
 ·(try simp only [B] at UW);refine Ok.chk ?_ ?_
  ·(try simp only [B]);omega
  refine Ok.bind (Ok.get ?_) (fun e56 I2=>?_)
  ·(try simp only [N,eq_self,true_or]);omega
  have kZ:=wA I2;(try simp only [N] at kZ);refine Ok.chk ?_ ?_
  ·(try simp only [B]);omega
  refine Ok.bind (Ok.get ?_) (fun e57 d6=>?_)
  ·(try simp only [N,eq_self,true_or]);omega
  have J2:=wA d6;(try simp only [N] at J2);refine v3 _ ?_;(try have:=zA (a:=e56.Now) (b:=9) (by omega) (by omega));have:=EB y5.1 r15.1.toNat (⟨e57.Kind,e57.Id,e57.Role,e57.Cn,e57.Sn,e57.Epoch,e57.Seq,e57.Body,e57.Key,e57.A,cA .i64 e56.Now 9⟩:G.Note);(try simp only [N] at this);(try simp only [N]);omega
 (try simp only [B] at UW);refine Ok.join (fun y59:G.Cur × (List G.Note)=>jA y59.1∧wt y59.2≤3000000000) (fun y59 F7=>?_) (fun k60 z3=>?_)
 ·(try simp only [N] at F7);refine v3 _ ?_;(try simp only [N]);omega
 refine Ok.cond' (fun mX=>?_) (fun mX=>?_)
 ·(try simp only [B] at mX);refine Ok.bind (EA ?_) (fun r61 hr61=>?_)
  ·(try simp only [N]);omega
  (try simp only [N] at hr61);refine Ok.chk ?_ ?_
  ·(try simp only [B]);omega
  refine Ok.bind (Ok.get ?_) (fun e63 he63=>?_)
  ·(try simp only [N,eq_self,true_or]);omega
  have J8:=wA he63;(try simp only [N] at J8);refine z3 _ ?_;have:=EB y5.1 r15.1.toNat (⟨e63.Kind,e63.Id,e63.Role,e63.Cn,e63.Sn,e63.Epoch,e63.Seq,e63.Body,e63.Key,(pB r61.1:G.Addr),e63.Now⟩:G.Note);(try simp only [N] at this);(try simp only [N]);omega
 (try simp only [B] at mX);refine Ok.join (fun y65:G.Cur × (List G.Note)=>jA y65.1∧wt y65.2≤3000000000) (fun y65 G7=>?_) (fun k66 A3=>?_)
 ·(try simp only [N] at G7);refine z3 _ ?_;(try simp only [N]);omega
 refine Ok.cond' (fun yX=>?_) (fun yX=>?_)
 ·(try simp only [B] at yX);refine Ok.bind (EA ?_) (fun r67 m0=>?_)
  ·(try simp only [N]);omega
  (try simp only [N] at m0);refine Ok.chk ?_ ?_
  ·(try simp only [B]);omega
  refine Ok.bind (Ok.get ?_) (fun e68 he68=>?_)
  ·(try simp only [N,eq_self,true_or]);omega
  have L8:=wA he68;(try simp only [N] at L8);refine A3 _ ?_;(try have:=zA (a:=1) (b:=r67.1) (by omega) (by omega));have:=EB y5.1 r15.1.toNat (⟨e68.Kind,cA .i64 1 r67.1,e68.Role,e68.Cn,e68.Sn,e68.Epoch,e68.Seq,e68.Body,e68.Key,e68.A,e68.Now⟩:G.Note);(try simp only [N] at this);(try simp only [N]);omega
 (try simp only [B] at yX);refine Ok.join (fun y70:(List G.Note)=>wt y70≤3000000000) (fun y70 hy70=>?_) (fun k71 B9=>?_)
 ·(try simp only [N] at hy70);refine A3 _ ?_;(try simp only [N]);omega
 refine Ok.cond' (fun PX=>?_) (fun PX=>?_)
 ·(try simp only [B] at PX);refine Ok.chk ?_ ?_
  ·(try simp only [B]);omega
  refine Ok.bind (Ok.get ?_) (fun e72 P2=>?_)
  ·(try simp only [N,eq_self,true_or]);omega
  have Q2:=wA P2;(try simp only [N] at Q2);refine Ok.chk ?_ ?_
  ·(try simp only [B]);omega
  refine Ok.bind (Ok.get ?_) (fun e73 he73=>?_)
  ·(try simp only [N,eq_self,true_or]);omega
  have M8:=wA he73;(try simp only [N] at M8);refine B9 _ ?_;(try have:=PA (a:=1) (b:=e72.Role) (by omega) (by omega));have:=EB y5.1 r15.1.toNat (⟨e73.Kind,e73.Id,sA .i64 1 e72.Role,e73.Cn,e73.Sn,e73.Epoch,e73.Seq,e73.Body,e73.Key,e73.A,e73.Now⟩:G.Note);(try simp only [N] at this);(try simp only [N,eq_self,true_or]);omega
 (try simp only [B] at PX);refine Ok.join (fun y75:(List G.Note)=>wt y75≤3000000000) (fun y75 Z3=>?_) (fun k76 uZ=>?_)
 ·(try simp only [N] at Z3);refine B9 _ ?_;(try simp only [N,eq_self,true_or]);omega
 refine Ok.condR (fun SX=>?_) (fun SX=>?_)
 ·(try simp only [B] at SX);refine uZ _ ?_;(try simp only [N,eq_self,true_or]);omega
 (try simp only [B] at SX);refine Ok.chk ?_ ?_
 ·(try simp only [B]);omega
 refine Ok.bind (Ok.get ?_) (fun e77 he77=>?_)
 ·(try simp only [N,eq_self,true_or]);omega
 have N8:=wA he77;(try simp only [N] at N8);refine Ok.same (XA ?_) ?_
 ·(try simp only [N]);omega
 refine Ok.chk ?_ ?_
 ·(try simp only [B]);omega
 refine Ok.bind (Ok.get ?_) (fun e79 he79=>?_)
 ·(try simp only [N,eq_self,true_or]);omega
 have O8:=wA he79;(try simp only [N] at O8);refine Ok.same (XA ?_) ?_
 ·(try simp only [N]);omega
 refine Ok.chk ?_ ?_
 ·(try simp only [B]);omega
 refine Ok.bind (Ok.get ?_) (fun e81 t6=>?_)
 ·(try simp only [N,eq_self,true_or]);omega
 have R2:=wA t6;(try simp only [N] at R2);refine Ok.chk ?_ ?_
 ·have:=EB y5.1 r15.1.toNat e79;(try simp only [N] at this);(try simp only [B,N]);omega
 refine Ok.bind (Ok.get ?_) (fun e82 S2=>?_)
 ·(try simp only [N]);omega
 have T2:=wA S2;(try simp only [N] at T2);refine uZ _ ?_;have:=EB (List.set y5.1 r15.1.toNat e79) r16.1.toNat e77;(try simp only [N] at this);have:=EB y5.1 r15.1.toNat e79;(try simp only [N] at this);(try simp only [N,eq_self,true_or]);omega
end Go.D
namespace Go.D
theorem zhv {b:List UInt8} {n:Int} (hn:0≤n∧n≤1000) (h:b.length≤1048576):Ok (cS.raw b n) fun r=>0≤r∧r≤255:=by
 unfold cS.raw
 refine Ok.cond' (fun h1=>?_) (fun h1=>?_)
 ·simp only [B] at h1
  refine Ok.bind (Ok.idx hn.1 h1) (fun e he=> .some' ?_)
  have:=UInt8.toNat_lt e
  rw [fC (by omega) (by omega)];omega
 ·have e1:LB .i64 n 31=n *31:=fC (by omega) (by omega)
  have e2:LB .i64 (b.length:Int) 7=(b.length:Int) *7:=fC (by omega) (by omega)
  refine .some' ?_
  rw [e1,e2,zA (by omega) (by omega)]
  have:=sI (a:=n *31+(b.length:Int) *7) (n:=256) (by omega) (by omega)
  omega
end Go.D

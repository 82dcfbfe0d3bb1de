/-
  The reference's machine comes to an end, and what it gives is small.
-/
import Derived.Test.YtinolgjddfjojaaGreatN8c
namespace Go.D
def nd (k:Int):Int:=if k≤3 then 0 else if k=4∨k=9 then 1 else if k=10 then 3 else 2
theorem nd_f (k:Int):0≤nd k∧nd k≤3∧(k=4→nd k=1)∧(k=5→nd k=2)∧(k=6→nd k=2)∧(k=7→nd k=2)∧(k=8→nd k=2)∧(k=9→nd k=1)∧(k=10→nd k=3):=by
 unfold nd
 repeat' split
 all_goals omega
theorem spec_l24Need_t {a0:Int} (ha:0≤a0∧a0≤10):Ok (spec_l24Need.raw a0) fun r=>r=nd a0∧0≤nd a0∧nd a0≤3:=by
 have:a0=0∨a0=1∨a0=2∨a0=3∨a0=4∨a0=5∨a0=6∨a0=7∨a0=8∨a0=9∨a0=10:=by omega
 rcases this with rfl | rfl | rfl | rfl | rfl | rfl | rfl | rfl | rfl | rfl | rfl <;> exact ⟨_,rfl,by decide⟩
theorem spec_l24Op_t {a0:G.Cur} (ha:CurOk a0):Ok (spec_l24Op.raw a0) fun r=>CurOk r.2∧r.1.B.length≤32∧1≤r.1.Kind∧r.1.Kind≤10:=by
 (try simp only [N] at ha);have hL:=LIM_is
 unfold spec_l24Op.raw
 refine Ok.bind (int_t (1) (10) ?_ (by simp) (by decide)) (fun r1 hr1=>?_)
 ·(try simp only [N]);omega
 (try simp only [N] at hr1);refine Ok.join (fun y2:G.Cur × G.Op=>CurOk y2.1∧y2.2.B.length≤32∧1≤y2.2.Kind∧y2.2.Kind≤10) (fun y2 hy2=>?_) (fun k3 hk3=>?_)
 ·(try simp only [N] at hy2);refine Ok.bind (spec_l1Below_t ?_) (fun r6 hr6=>?_)
  ·(try simp only [N]);omega
  (try simp only [N] at hr6);refine Ok.bind (int_t (0) (16) ?_ (by simp) (by decide)) (fun r7 hr7=>?_)
  ·(try simp only [N]);omega
  (try simp only [N] at hr7);refine Ok.some' ?_;(try simp only [N]);omega
 refine Ok.cond' (fun h1=>?_) (fun h1=>?_)
 ·(try simp only [B] at h1);refine Ok.bind (int_t (0) (32) ?_ (by simp) (by decide)) (fun r4 hr4=>?_)
  ·(try simp only [N]);omega
  (try simp only [N] at hr4);refine Ok.bind (spec_l1Bytes_t ?_ ?_) (fun r5 hr5=>?_)
  ·(try simp only [N]);omega
  ·(try simp only [N]);omega
  (try simp only [N] at hr5);refine hk3 _ ?_;(try simp only [N]);omega
 ·(try simp only [B] at h1);refine hk3 _ ?_;(try simp only [N]);omega
theorem spec_l24Recipe_t {a0:G.Cur} {a1:Int} (ha:CurOk a0) (hb:0<a1∧a1≤20):Ok (spec_l24Recipe.raw a0 a1) fun r=>CurOk r.2∧wt r.1≤1000:=by
 (try simp only [N] at ha);(try simp only [N] at hb);have hL:=LIM_is
 unfold spec_l24Recipe.raw
 refine Ok.bind (spec_l1Below_t ?_) (fun r1 hr1=>?_)
 ·(try simp only [N]);omega
 (try simp only [N] at hr1);refine Ok.join (fun y2:(List G.Op) × Int × G.Cur=>CurOk y2.2.2∧wt y2.1≤700∧y2.2.1≤21) (fun y2 hy2=>?_) (fun k3 hk3=>?_)
 ·(try simp only [N] at hy2);refine Ok.join (fun y16:(List G.Op)=>wt y16≤1000) (fun y16 hy16=>?_) (fun k17 hk17=>?_)
  ·(try simp only [N] at hy16);refine Ok.some' ?_;(try simp only [N]);omega
  refine Ok.loop (fun x18:(List G.Op) × Int=>wt x18.1+x18.2≤730∧wt x18.1≤729∧x18.2≤30) (fun x18:(List G.Op) × Int=>x18.2.toNat) (fun x18 hx18 k19 hk19=>?_) ?_ ?_
  ·(try simp only [N] at hx18);refine Ok.cond' (fun h1=>?_) (fun h1=>?_)
   ·(try simp only [B] at h1);refine Ok.guard ?_ ?_
    ·(try simp only [N]);omega
    refine hk19 _ ?_ ?_
    ·(try have:=isub_eq (a:=x18.2) (b:=1) (by omega) (by omega));(try simp only [N]);omega
    ·(try have:=isub_eq (a:=x18.2) (b:=1) (by omega) (by omega));(try simp only);omega
   ·(try simp only [B] at h1);refine hk17 _ ?_;(try simp only [N]);omega
  ·(try simp only);omega
  ·(try simp only);omega
 refine Ok.loop (fun x4:(List G.Op) × Int × Int × G.Cur=>0≤x4.2.2.1∧x4.2.2.1≤20∧wt x4.1+33 *x4.2.2.1≤660∧x4.2.1+x4.2.2.1≤20∧ -2 *20≤x4.2.1 - 2 *x4.2.2.1∧CurOk x4.2.2.2) (fun x4:(List G.Op) × Int × Int × G.Cur=>x4.2.2.1.toNat) (fun x4 hx4 k5 hk5=>?_) ?_ ?_
 ·(try simp only [N] at hx4);refine Ok.cond' (fun h2=>?_) (fun h2=>?_)
  ·(try simp only [B] at h2);refine Ok.bind (spec_l24Op_t ?_) (fun r6 hr6=>?_)
   ·(try simp only [N]);omega
   (try simp only [N] at hr6);refine Ok.join (fun y7:G.Cur × G.Op=>CurOk y7.1∧y7.2.B.length≤32∧1≤y7.2.Kind∧y7.2.Kind≤10) (fun y7 hy7=>?_) (fun k8 hk8=>?_)
   ·(try simp only [N] at hy7);refine Ok.bind (spec_l24Need_t ?_) (fun r15 hr15=>?_)
    ·(try simp only [N]);omega
    (try simp only [N] at hr15);refine Ok.guard ?_ ?_
    ·(try simp only [N]);omega
    refine hk5 _ ?_ ?_
    ·(try have:=isub_eq (a:=x4.2.2.1) (b:=1) (by omega) (by omega));(try have:=isub_eq (a:=x4.2.1) (b:=r15) (by omega) (by omega));(try have:=iadd_eq (a:=(isub .i64 x4.2.1 r15)) (b:=1) (by omega) (by omega));(try simp only [N]);omega
    ·(try have:=isub_eq (a:=x4.2.2.1) (b:=1) (by omega) (by omega));(try have:=isub_eq (a:=x4.2.1) (b:=r15) (by omega) (by omega));(try have:=iadd_eq (a:=(isub .i64 x4.2.1 r15)) (b:=1) (by omega) (by omega));(try simp only);omega
   refine Ok.loop (fun x9:Int × G.Cur × G.Op=>0≤x9.1∧x9.1≤6∧CurOk x9.2.1∧x9.2.2.B.length≤32∧1≤x9.2.2.Kind∧x9.2.2.Kind≤10) (fun x9:Int × G.Cur × G.Op=>(6 - x9.1).toNat) (fun x9 hx9 k10 hk10=>?_) ?_ ?_
   ·(try simp only [N] at hx9);refine Ok.join (fun y11:Bool=>y11=true→x9.1<6) (fun y11 hy11=>?_) (fun k12 hk12=>?_)
    ·refine Ok.cond' (fun h3=>?_) (fun h3=>?_)
     ·replace hy11:=hy11 h3;(try simp only [N] at hy11);refine Ok.bind (spec_l24Op_t ?_) (fun r14 hr14=>?_)
      ·(try simp only [N]);omega
      (try simp only [N] at hr14);refine hk10 _ ?_ ?_
      ·(try have:=iadd_eq (a:=x9.1) (b:=1) (by omega) (by omega));(try simp only [N]);omega
      ·(try have:=iadd_eq (a:=x9.1) (b:=1) (by omega) (by omega));(try simp only);omega
     ·refine hk8 _ ?_;(try simp only [N]);omega
    refine Ok.cond' (fun h4=>?_) (fun h4=>?_)
    ·(try simp only [B] at h4);refine Ok.bind (spec_l24Need_t ?_) (fun r13 hr13=>?_)
     ·(try simp only [N]);omega
     (try simp only [N] at hr13);refine hk12 _ fun q5=>?_;(try simp only [B] at q5);(try simp only [N]);omega
    ·exact hk12 _ fun h=>nomatch h
   ·(try simp only [N]);omega
   ·(try simp only);omega
  ·(try simp only [B] at h2);refine hk3 _ ?_;(try simp only [N]);omega
 ·(try have:=iadd_eq (a:=1) (b:=r1.1) (by omega) (by omega));(try simp only [N]);omega
 ·(try have:=iadd_eq (a:=1) (b:=r1.1) (by omega) (by omega));(try simp only);omega
theorem spec_l9Kind_t {a0:G.Cur} (ha:CurOk a0):Ok (spec_l9Kind.raw a0) fun r=>CurOk r.2.2∧r.2.1.length≤40:=by
 (try simp only [N] at ha);have hL:=LIM_is
 unfold spec_l9Kind.raw
 refine Ok.bind (spec_l1Below_t ?_) (fun r1 hr1=>?_)
 ·(try simp only [N]);omega
 (try simp only [N] at hr1);refine Ok.cond' (fun h1=>?_) (fun h1=>?_)
 ·(try simp only [B] at h1);refine Ok.bind (spec_l1Below_t ?_) (fun r2 hr2=>?_)
  ·(try simp only [N]);omega
  (try simp only [N] at hr2);refine Ok.bind (spec_l1Bytes_t ?_ ?_) (fun r3 hr3=>?_)
  ·(try simp only [N]);omega
  ·(try simp only [N]);omega
  (try simp only [N] at hr3);refine Ok.some' ?_;(try have:=iadd_eq (a:=5) (b:=r2.1) (by omega) (by omega));(try simp only [N]);omega
 ·(try simp only [B] at h1);refine Ok.cond' (fun h2=>?_) (fun h2=>?_)
  ·(try simp only [B] at h2);refine Ok.bind (spec_l1Below_t ?_) (fun r4 hr4=>?_)
   ·(try simp only [N]);omega
   (try simp only [N] at hr4);refine Ok.bind (spec_l1Bytes_t ?_ ?_) (fun r5 hr5=>?_)
   ·(try simp only [N]);omega
   ·(try simp only [N]);omega
   (try simp only [N] at hr5);refine Ok.some' ?_;(try have:=iadd_eq (a:=7) (b:=r4.1) (by omega) (by omega));(try simp only [N]);omega
  ·(try simp only [B] at h2);refine Ok.bind (int_t (0) (40) ?_ (by simp) (by decide)) (fun r6 hr6=>?_)
   ·(try simp only [N]);omega
   (try simp only [N] at hr6);refine Ok.bind (spec_l1Bytes_t ?_ ?_) (fun r7 hr7=>?_)
   ·(try simp only [N]);omega
   ·(try simp only [N]);omega
   (try simp only [N] at hr7);refine Ok.some' ?_;(try simp only [N]);omega
theorem spec_l26Pick_t {a0:G.Cur} {a1:G.World} {a2:Int} {a3:Bool} (ha:CurOk a0) (hb:wt a1≤400000000) (hc:TW a1):Ok (spec_l26Pick.raw a0 a1 a2 a3) fun r=>wt r.1≤3000∧CurOk r.2.1:=by
 (try simp only [N] at ha);(try simp only [N] at hb);(try simp only [N] at hc);have hL:=LIM_is;have hks:=wt_len a1.Known;(try simp only [N] at hks)
 unfold spec_l26Pick.raw
 refine Ok.bind (spec_l1Below_t ?_) (fun r1 hr1=>?_)
 ·(try simp only [N]);omega
 (try simp only [N] at hr1);refine Ok.bind (spec_l1Below_t ?_) (fun r2 hr2=>?_)
 ·(try simp only [N]);omega
 (try simp only [N] at hr2);refine Ok.bind (spec_l1Below_t ?_) (fun r3 hr3=>?_)
 ·(try simp only [N]);omega
 (try simp only [N] at hr3);refine Ok.join (fun y4:Bool × G.Cur=>CurOk y4.2) (fun y4 hy4=>?_) (fun k5 hk5=>?_)
 ·(try simp only [N] at hy4);refine Ok.cond' (fun h1=>?_) (fun h1=>?_)
  ·refine Ok.some' ?_;(try have:=iadd_eq (a:=a2) (b:=1) (by omega) (by omega));(try simp only [N]);omega
  ·refine Ok.join (fun y7:Bool × G.Cur=>CurOk y7.2) (fun y7 hy7=>?_) (fun k8 hk8=>?_)
   ·(try simp only [N] at hy7);refine Ok.cond' (fun h2=>?_) (fun h2=>?_)
    ·refine Ok.some' ?_;(try simp only [N]);omega
    ·refine Ok.bind (spec_l1Below_t ?_) (fun r11 hr11=>?_)
     ·(try simp only [N]);omega
     (try simp only [N] at hr11);refine Ok.join (fun y12:Bool=>True) (fun y12 hy12=>?_) (fun k13 hk13=>?_)
     ·refine Ok.join (fun y16:G.Event × G.Cur × G.Event=>wt y16.1≤3000∧CurOk y16.2.1) (fun y16 hy16=>?_) (fun k17 hk17=>?_)
      ·(try simp only [N] at hy16);refine Ok.some' ?_;(try simp only [N]);omega
      refine Ok.cond' (fun h3=>?_) (fun h3=>?_)
      ·refine Ok.bind (spec_l1Below_t ?_) (fun r18 hr18=>?_)
       ·(try simp only [N]);omega
       (try simp only [N] at hr18);refine Ok.bind (spec_l1Bytes_t ?_ ?_) (fun r19 hr19=>?_)
       ·(try simp only [N]);omega
       ·(try simp only [N]);omega
       (try simp only [N] at hr19);refine hk17 _ ?_;(try simp only [N]);omega
      ·refine Ok.join (fun y20:Bool=>True) (fun y20 hy20=>?_) (fun k21 hk21=>?_)
       ·refine Ok.join (fun y22:G.Event × G.Cur × G.Event=>wt y22.1≤3000∧CurOk y22.2.1) (fun y22 hy22=>?_) (fun k23 hk23=>?_)
        ·(try simp only [N] at hy22);refine hk17 _ ?_;(try simp only [N]);omega
        refine Ok.cond' (fun h4=>?_) (fun h4=>?_)
        ·refine Ok.bind (spec_l1Below_t ?_) (fun r24 hr24=>?_)
         ·(try simp only [N]);omega
         (try simp only [N] at hr24);refine Ok.bind (spec_l1Below_t ?_) (fun r25 hr25=>?_)
         ·(try simp only [N]);omega
         (try simp only [N] at hr25);refine Ok.bind (spec_l1Bytes_t ?_ ?_) (fun r26 hr26=>?_)
         ·(try simp only [N]);omega
         ·(try simp only [N]);omega
         (try simp only [N] at hr26);refine hk23 _ ?_;(try simp only [N]);omega
        ·refine Ok.join (fun y27:Bool=>True) (fun y27 hy27=>?_) (fun k28 hk28=>?_)
         ·refine Ok.join (fun y29:G.Event × G.Cur × G.Event=>wt y29.1≤3000∧CurOk y29.2.1) (fun y29 hy29=>?_) (fun k30 hk30=>?_)
          ·(try simp only [N] at hy29);refine hk23 _ ?_;(try simp only [N]);omega
          refine Ok.cond' (fun h5=>?_) (fun h5=>?_)
          ·refine hk30 _ ?_;(try simp only [N]);omega
          ·refine Ok.join (fun y31:G.Event × G.Cur × G.Event=>wt y31.1≤3000∧CurOk y31.2.1) (fun y31 hy31=>?_) (fun k32 hk32=>?_)
           ·(try simp only [N] at hy31);refine hk30 _ ?_;(try simp only [N]);omega
           refine Ok.cond' (fun h6=>?_) (fun h6=>?_)
           ·(try simp only [B] at h6);refine hk32 _ ?_;(try simp only [N]);omega
           ·(try simp only [B] at h6);refine Ok.join (fun y33:Bool=>True) (fun y33 hy33=>?_) (fun k34 hk34=>?_)
            ·refine Ok.join (fun y35:G.Event × G.Cur × G.Event=>wt y35.1≤3000∧CurOk y35.2.1) (fun y35 hy35=>?_) (fun k36 hk36=>?_)
             ·(try simp only [N] at hy35);refine hk32 _ ?_;(try simp only [N]);omega
             refine Ok.cond' (fun h7=>?_) (fun h7=>?_)
             ·refine hk36 _ ?_;(try simp only [N]);omega
             ·refine Ok.bind (spec_l1Below_t ?_) (fun r37 hr37=>?_)
              ·(try simp only [N]);omega
              (try simp only [N] at hr37);refine Ok.bind (spec_l1Below_t ?_) (fun r38 hr38=>?_)
              ·(try simp only [N]);omega
              (try simp only [N] at hr38);refine Ok.join (fun y39:Bool × G.Cur=>CurOk y39.2) (fun y39 hy39=>?_) (fun k40 hk40=>?_)
              ·(try simp only [N] at hy39);refine Ok.join (fun y42:G.Cur × G.Event=>CurOk y42.1∧wt y42.2≤500) (fun y42 hy42=>?_) (fun k43 hk43=>?_)
               ·(try simp only [N] at hy42);refine Ok.bind (spec_l1Below_t ?_) (fun r46 hr46=>?_)
                ·(try simp only [N]);omega
                (try simp only [N] at hr46);refine Ok.cond' (fun h8=>?_) (fun h8=>?_)
                ·(try simp only [B] at h8);refine Ok.some' ?_;(try simp only [N]);omega
                ·(try simp only [B] at h8);refine Ok.bind (spec_l1Below_t ?_) (fun r47 hr47=>?_)
                 ·(try simp only [N]);omega
                 (try simp only [N] at hr47);refine Ok.join (fun y48:Bool=>True) (fun y48 hy48=>?_) (fun k49 hk49=>?_)
                 ·refine Ok.join (fun y50:G.Event × G.Cur=>wt y50.1≤3000∧CurOk y50.2) (fun y50 hy50=>?_) (fun k51 hk51=>?_)
                  ·(try simp only [N] at hy50);refine hk36 _ ?_;(try simp only [N]);omega
                  refine Ok.cond' (fun h9=>?_) (fun h9=>?_)
                  ·refine Ok.bind (spec_l24Recipe_t ?_ ?_) (fun r52 hr52=>?_)
                   ·(try simp only [N]);omega
                   ·(try simp only [N]);omega
                   (try simp only [N] at hr52);refine Ok.join (fun y53:G.Cur × G.Event=>CurOk y53.1∧wt y53.2≤3000) (fun y53 hy53=>?_) (fun k54 hk54=>?_)
                   ·(try simp only [N] at hy53);refine hk51 _ ?_;(try simp only [N]);omega
                   refine Ok.cond' (fun h10=>?_) (fun h10=>?_)
                   ·(try simp only [B] at h10);refine Ok.bind (spec_l1Below_t ?_) (fun r55 hr55=>?_)
                    ·(try simp only [N]);omega
                    (try simp only [N] at hr55);refine Ok.bind (Ok.idx ?_ ?_) (fun e56 he56=>?_)
                    ·(try simp only [N]);omega
                    ·(try simp only [N]);omega
                    have he56w:=wt_at he56;(try simp only [N] at he56w);refine Ok.join (fun y57:Bool × G.Cur=>CurOk y57.2) (fun y57 hy57=>?_) (fun k58 hk58=>?_)
                    ·(try simp only [N] at hy57);refine Ok.join (fun y60:(List UInt8)=>y60.length≤900000000) (fun y60 hy60=>?_) (fun k61 hk61=>?_)
                     ·(try simp only [N] at hy60);refine Ok.bind (spec_l9Kind_t ?_) (fun r63 hr63=>?_)
                      ·(try simp only [N]);omega
                      (try simp only [N] at hr63);refine Ok.bind (Ok.idx ?_ ?_) (fun e64 he64=>?_)
                      ·(try simp only [N]);omega
                      ·(try simp only [N]);omega
                      have he64w:=wt_at he64;(try simp only [N] at he64w);refine Ok.bind (spec_l1Below_t ?_) (fun r65 hr65=>?_)
                      ·(try simp only [N]);omega
                      (try simp only [N] at hr65);refine Ok.bind (spec_l1Below_t ?_) (fun r66 hr66=>?_)
                      ·(try simp only [N]);omega
                      (try simp only [N] at hr66);refine Ok.bind (spec_l1Below_t ?_) (fun r67 hr67=>?_)
                      ·(try simp only [N]);omega
                      (try simp only [N] at hr67);refine Ok.bind (spec_Forge_t ?_ ?_ ?_) (fun r68 hr68=>?_)
                      ·(try simp only [N]);omega
                      ·(try simp only [N]);omega
                      ·(try simp only [N]);omega
                      (try simp only [N] at hr68);refine Ok.join (fun y69:G.Event=>wt y69≤3000) (fun y69 hy69=>?_) (fun k70 hk70=>?_)
                      ·(try simp only [N] at hy69);refine hk54 _ ?_;(try simp only [N]);omega
                      refine Ok.cond' (fun h11=>?_) (fun h11=>?_)
                      ·(try simp only [B] at h11);refine hk70 _ ?_;(try simp only [N]);omega
                      ·(try simp only [B] at h11);refine hk70 _ ?_;(try simp only [N]);omega
                     refine Ok.cond' (fun h12=>?_) (fun h12=>?_)
                     ·refine Ok.bind (Ok.idx ?_ ?_) (fun e62 he62=>?_)
                      ·(try simp only [N]);omega
                      ·(try simp only [N]);omega
                      have he62w:=wt_at he62;(try simp only [N] at he62w);refine hk61 _ ?_;(try simp only [N]);omega
                     ·refine hk61 _ ?_;(try simp only [N]);omega
                    refine Ok.cond' (fun h13=>?_) (fun h13=>?_)
                    ·(try simp only [B] at h13);refine hk58 _ ?_;(try simp only [N]);omega
                    ·(try simp only [B] at h13);refine Ok.bind (spec_l1Once_t ?_) (fun r59 hr59=>?_)
                     ·(try simp only [N]);omega
                     (try simp only [N] at hr59);refine hk58 _ ?_;(try simp only [N]);omega
                   ·(try simp only [B] at h10);refine hk54 _ ?_;(try simp only [N]);omega
                  ·refine Ok.join (fun y71:G.Event × G.Cur=>wt y71.1≤3000∧CurOk y71.2) (fun y71 hy71=>?_) (fun k72 hk72=>?_)
                   ·(try simp only [N] at hy71);refine hk51 _ ?_;(try simp only [N]);omega
                   refine Ok.cond' (fun h14=>?_) (fun h14=>?_)
                   ·(try simp only [B] at h14);refine hk72 _ ?_;(try simp only [N]);omega
                   ·(try simp only [B] at h14);refine Ok.join (fun y73:G.Event × G.Cur=>wt y73.1≤3000∧CurOk y73.2) (fun y73 hy73=>?_) (fun k74 hk74=>?_)
                    ·(try simp only [N] at hy73);refine hk72 _ ?_;(try simp only [N]);omega
                    refine Ok.cond' (fun h15=>?_) (fun h15=>?_)
                    ·(try simp only [B] at h15);refine hk74 _ ?_;(try simp only [N]);omega
                    ·(try simp only [B] at h15);refine Ok.join (fun y75:G.Event × G.Cur=>wt y75.1≤3000∧CurOk y75.2) (fun y75 hy75=>?_) (fun k76 hk76=>?_)
                     ·(try simp only [N] at hy75);refine hk74 _ ?_;(try simp only [N]);omega
                     refine Ok.cond' (fun h16=>?_) (fun h16=>?_)
                     ·(try simp only [B] at h16);refine Ok.bind (spec_l1Below_t ?_) (fun r77 hr77=>?_)
                      ·(try simp only [N]);omega
                      (try simp only [N] at hr77);refine hk76 _ ?_;(try simp only [N]);omega
                     ·(try simp only [B] at h16);refine Ok.join (fun y78:G.Event × G.Cur=>wt y78.1≤3000∧CurOk y78.2) (fun y78 hy78=>?_) (fun k79 hk79=>?_)
                      ·(try simp only [N] at hy78);refine hk76 _ ?_;(try simp only [N]);omega
                      refine Ok.cond' (fun h17=>?_) (fun h17=>?_)
                      ·(try simp only [B] at h17);refine hk79 _ ?_;(try simp only [N]);omega
                      ·(try simp only [B] at h17);refine Ok.join (fun y80:G.Event × G.Cur=>wt y80.1≤3000∧CurOk y80.2) (fun y80 hy80=>?_) (fun k81 hk81=>?_)
                       ·(try simp only [N] at hy80);refine hk79 _ ?_;(try simp only [N]);omega
                       refine Ok.cond' (fun h18=>?_) (fun h18=>?_)
                       ·(try simp only [B] at h18);refine Ok.bind (spec_l1Below_t ?_) (fun r82 hr82=>?_)
                        ·(try simp only [N]);omega
                        (try simp only [N] at hr82);refine hk81 _ ?_;(try simp only [N]);omega
                       ·(try simp only [B] at h18);refine Ok.join (fun y83:G.Cur × G.Event=>CurOk y83.1∧wt y83.2≤3000) (fun y83 hy83=>?_) (fun k84 hk84=>?_)
                        ·(try simp only [N] at hy83);refine hk81 _ ?_;(try simp only [N]);omega
                        refine Ok.cond' (fun h19=>?_) (fun h19=>?_)
                        ·(try simp only [B] at h19);refine Ok.bind (spec_l1Once_t ?_) (fun r85 hr85=>?_)
                         ·(try simp only [N]);omega
                         (try simp only [N] at hr85);refine Ok.join (fun y86:G.Event × G.Cur=>wt y86.1≤3000∧CurOk y86.2) (fun y86 hy86=>?_) (fun k87 hk87=>?_)
                         ·(try simp only [N] at hy86);refine hk84 _ ?_;(try simp only [N]);omega
                         refine Ok.cond' (fun h20=>?_) (fun h20=>?_)
                         ·(try simp only [B] at h20);refine Ok.bind (spec_l1Below_t ?_) (fun r88 hr88=>?_)
                          ·(try simp only [N]);omega
                          (try simp only [N] at hr88);refine hk87 _ ?_;(try simp only [N]);omega
                         ·(try simp only [B] at h20);refine hk87 _ ?_;(try simp only [N]);omega
                        ·(try simp only [B] at h19);refine Ok.join (fun y89:G.Event × G.Cur=>wt y89.1≤3000∧CurOk y89.2) (fun y89 hy89=>?_) (fun k90 hk90=>?_)
                         ·(try simp only [N] at hy89);refine hk84 _ ?_;(try simp only [N]);omega
                         refine Ok.cond' (fun h21=>?_) (fun h21=>?_)
                         ·(try simp only [B] at h21);refine Ok.bind (int_t (2) (4) ?_ (by simp) (by decide)) (fun r91 hr91=>?_)
                          ·(try simp only [N]);omega
                          (try simp only [N] at hr91);refine Ok.bind (int_t (24) (44) ?_ (by simp) (by decide)) (fun r92 hr92=>?_)
                          ·(try simp only [N]);omega
                          (try simp only [N] at hr92);refine hk90 _ ?_;(try simp only [N]);omega
                         ·(try simp only [B] at h21);refine hk90 _ ?_;(try simp only [N]);omega
                 refine Ok.cond' (fun h22=>?_) (fun h22=>?_)
                 ·exact hk49 _ trivial
                 ·exact hk49 _ trivial
               refine Ok.cond' (fun h23=>?_) (fun h23=>?_)
               ·refine Ok.bind (spec_l1Below_t ?_) (fun r44 hr44=>?_)
                ·(try simp only [N]);omega
                (try simp only [N] at hr44);refine hk43 _ ?_;(try have:=isub_eq (a:=(a1.Seen.length:Int)) (b:=1) (by omega) (by omega));(try have:=isub_eq (a:=(isub .i64 (a1.Seen.length:Int) 1)) (b:=r44.1) (by omega) (by omega));(try have:=iadd_eq (a:=7) (b:=r37.1) (by omega) (by omega));(try simp only [N]);omega
               ·refine hk43 _ ?_;(try have:=iadd_eq (a:=7) (b:=r37.1) (by omega) (by omega));(try simp only [N]);omega
              refine Ok.cond' (fun h24=>?_) (fun h24=>?_)
              ·(try simp only [B] at h24);refine Ok.bind (spec_l1Once_t ?_) (fun r41 hr41=>?_)
               ·(try simp only [N]);omega
               (try simp only [N] at hr41);refine hk40 _ ?_;(try simp only [N]);omega
              ·(try simp only [B] at h24);refine hk40 _ ?_;(try simp only [N]);omega
            refine Ok.cond' (fun h25=>?_) (fun h25=>?_)
            ·exact hk34 _ trivial
            ·exact hk34 _ trivial
         refine Ok.cond' (fun h26=>?_) (fun h26=>?_)
         ·exact hk28 _ trivial
         ·exact hk28 _ trivial
       refine Ok.cond' (fun h27=>?_) (fun h27=>?_)
       ·exact hk21 _ trivial
       ·exact hk21 _ trivial
     refine Ok.cond' (fun h28=>?_) (fun h28=>?_)
     ·exact hk13 _ trivial
     ·(try simp only [B] at h28);refine Ok.join (fun y14:Bool=>True) (fun y14 hy14=>?_) (fun k15 hk15=>?_)
      ·exact hk13 _ trivial
      refine Ok.cond' (fun h29=>?_) (fun h29=>?_)
      ·exact hk15 _ trivial
      ·exact hk15 _ trivial
   refine Ok.bind (Ok.idx ?_ ?_) (fun e9 he9=>?_)
   ·(try simp only [N]);omega
   ·(try simp only [N]);omega
   have he9w:=wt_at he9;(try simp only [N] at he9w);refine Ok.cond' (fun h30=>?_) (fun h30=>?_)
   ·(try simp only [B] at h30);refine Ok.bind (spec_l1Once_t ?_) (fun r10 hr10=>?_)
    ·(try simp only [N]);omega
    (try simp only [N] at hr10);refine hk8 _ ?_;(try simp only [N]);omega
   ·(try simp only [B] at h30);refine hk8 _ ?_;(try simp only [N]);omega
 refine Ok.cond' (fun h31=>?_) (fun h31=>?_)
 ·(try simp only [B] at h31);refine Ok.bind (spec_l1Once_t ?_) (fun r6 hr6=>?_)
  ·(try simp only [N]);omega
  (try simp only [N] at hr6);refine hk5 _ ?_;(try simp only [N]);omega
 ·(try simp only [B] at h31);refine hk5 _ ?_;(try simp only [N]);omega
theorem spec_StepOk_t {a0:G.Op}:Ok (spec_StepOk.raw a0) fun r=>(True)∧(r=true→1≤a0.Kind∧a0.Kind≤10∧a0.B.length≤200∧0≤a0.I∧0≤a0.J):=by
 have hL:=LIM_is
 unfold spec_StepOk.raw
 refine Ok.join (fun y1:Bool=>y1=true→1≤a0.Kind∧a0.Kind≤10∧a0.B.length≤200∧0≤a0.I∧0≤a0.J) (fun y1 hy1=>?_) (fun k2 hk2=>?_)
 ·refine Ok.some' ⟨?_,?_⟩
  ·trivial
  ·intro q1;(try simp only [B] at q1);replace hy1:=hy1 q1;(try simp only [N] at hy1);(try simp only [N]);omega
 refine Ok.cond' (fun h2=>?_) (fun h2=>?_)
 ·(try simp only [B] at h2);refine Ok.cond' (fun h3=>?_) (fun h3=>?_)
  ·(try simp only [B] at h3);refine Ok.cond' (fun h4=>?_) (fun h4=>?_)
   ·(try simp only [B] at h4);refine hk2 _ fun q5=>?_;(try simp only [B] at q5);(try simp only [N]);omega
   ·exact hk2 _ fun h=>nomatch h
  ·exact hk2 _ fun h=>nomatch h
 ·exact hk2 _ fun h=>nomatch h
theorem spec_Cook_t {a0:List G.Op} {a1:List G.Wire} {a2:List (List UInt8)} (ha:wt a0≤100000) (hb:wt a1≤500000000) (hc:wt a2≤500000000):Ok (spec_Cook.raw a0 a1 a2) fun r=>r.1.length≤10000:=by
 (try simp only [N] at ha);(try simp only [N] at hb);(try simp only [N] at hc);have hL:=LIM_is
 unfold spec_Cook.raw
 refine Ok.cond' (fun h1=>?_) (fun h1=>?_)
 ·(try simp only [B] at h1);refine Ok.some' ?_;(try simp only [N]);omega
 ·(try simp only [B] at h1);refine Ok.join (fun y1:(List (List UInt8))=>wt y1≤3300) (fun y1 hy1=>?_) (fun k2 hk2=>?_)
  ·(try simp only [N] at hy1);have hyw:=wt_len y1;(try simp only [N] at hyw);refine Ok.cond' (fun h2=>?_) (fun h2=>?_)
   ·(try simp only [B] at h2);refine Ok.some' ?_;(try simp only [N]);omega
   ·(try simp only [B] at h2);refine Ok.chk ?_ ?_
    ·(try simp only [B]);omega
    refine Ok.bind (Ok.get ?_) (fun e71 he71=>?_)
    ·(try simp only [N]);omega
    have he71w:=wt_at he71;(try simp only [N] at he71w);refine Ok.guard ?_ ?_
    ·(try simp only [N]);omega
    refine Ok.some' ?_;(try simp only [N]);omega
  refine Ok.loop (fun x3:(List (List UInt8)) × Int=>0≤x3.2∧x3.2≤(a0.length:Int)∧wt x3.1≤201 *x3.2) (fun x3:(List (List UInt8)) × Int=>((a0.length:Int) - x3.2).toNat) (fun x3 hx3 k4 hk4=>?_) ?_ ?_
  ·(try simp only [N] at hx3);have hpw:=wt_len x3.1;(try simp only [N] at hpw);refine Ok.cond' (fun h3=>?_) (fun h3=>?_)
   ·(try simp only [B] at h3);refine Ok.bind (Ok.idx ?_ ?_) (fun e5 he5=>?_)
    ·(try simp only [N]);omega
    ·(try simp only [N]);omega
    have he5w:=wt_at he5;(try simp only [N] at he5w);have hnd:=nd_f e5.Kind;(try simp only [N] at hnd);refine Ok.join (fun y6:Bool=>y6=false→1≤e5.Kind∧e5.Kind≤10∧e5.B.length≤200∧0≤e5.I∧0≤e5.J∧nd e5.Kind≤(x3.1.length:Int)) (fun y6 hy6=>?_) (fun k7 hk7=>?_)
    ·refine Ok.cond' (fun h4=>?_) (fun h4=>?_)
     ·refine Ok.some' ?_;(try simp only [N]);omega
     ·replace hy6:=hy6 h4;(try simp only [N] at hy6);refine Ok.bind (spec_l24Need_t ?_) (fun r10 hr10=>?_)
      ·(try simp only [N]);omega
      (try simp only [N] at hr10);refine Ok.join (fun y11:(List UInt8)=>y11.length≤500000000) (fun y11 hy11=>?_) (fun k12 hk12=>?_)
      ·(try simp only [N] at hy11);refine Ok.join (fun y68:Bool=>y68=false→y11.length≤200) (fun y68 hy68=>?_) (fun k69 hk69=>?_)
       ·refine Ok.cond' (fun h5=>?_) (fun h5=>?_)
        ·refine Ok.some' ?_;(try simp only [N]);omega
        ·replace hy68:=hy68 h5;(try simp only [N] at hy68);refine Ok.chk ?_ ?_
         ·(try have:=isub_eq (a:=(x3.1.length:Int)) (b:=r10) (by omega) (by omega));(try simp only [B]);omega
         refine Ok.guard ?_ ?_
         ·(try have:=isub_eq (a:=(x3.1.length:Int)) (b:=r10) (by omega) (by omega));have:=wt_take x3.1 ((isub .i64 (x3.1.length:Int) r10 - 0).toNat);(try simp only [N] at this);(try simp only [N]);omega
         refine hk4 _ ?_ ?_
         ·(try have:=iadd_eq (a:=x3.2) (b:=1) (by omega) (by omega));(try have:=isub_eq (a:=(x3.1.length:Int)) (b:=r10) (by omega) (by omega));have:=wt_take x3.1 ((isub .i64 (x3.1.length:Int) r10 - 0).toNat);(try simp only [N] at this);(try simp only [N]);omega
         ·(try have:=iadd_eq (a:=x3.2) (b:=1) (by omega) (by omega));(try have:=isub_eq (a:=(x3.1.length:Int)) (b:=r10) (by omega) (by omega));have:=wt_take x3.1 ((isub .i64 (x3.1.length:Int) r10 - 0).toNat);(try simp only [N] at this);(try simp only);omega
       refine Ok.cond' (fun h6=>?_) (fun h6=>?_)
       ·exact hk69 _ fun h=>nomatch h
       ·(try simp only [B] at h6);refine hk69 _ fun q7=>?_;(try simp only [B] at q7);(try have:=isub_eq (a:=(x3.1.length:Int)) (b:=r10) (by omega) (by omega));(try simp only [N]);omega
      refine Ok.cond' (fun h8=>?_) (fun h8=>?_)
      ·(try simp only [B] at h8);refine Ok.guard ?_ ?_
       ·(try simp only [N]);omega
       refine hk12 _ ?_;(try simp only [N]);omega
      ·(try simp only [B] at h8);refine Ok.join (fun y13:(List UInt8)=>y13.length≤500000000) (fun y13 hy13=>?_) (fun k14 hk14=>?_)
       ·(try simp only [N] at hy13);refine hk12 _ ?_;(try simp only [N]);omega
       refine Ok.cond' (fun h9=>?_) (fun h9=>?_)
       ·(try simp only [B] at h9);refine Ok.cond' (fun h10=>?_) (fun h10=>?_)
        ·(try simp only [B] at h10);refine Ok.some' ?_;(try simp only [N]);omega
        ·(try simp only [B] at h10);refine Ok.bind (Ok.idx ?_ ?_) (fun e15 he15=>?_)
         ·(try simp only [N]);omega
         ·(try simp only [N]);omega
         have he15w:=wt_at he15;(try simp only [N] at he15w);refine Ok.guard ?_ ?_
         ·(try simp only [N]);omega
         refine hk14 _ ?_;(try simp only [N]);omega
       ·(try simp only [B] at h9);refine Ok.join (fun y16:(List UInt8)=>y16.length≤500000000) (fun y16 hy16=>?_) (fun k17 hk17=>?_)
        ·(try simp only [N] at hy16);refine hk14 _ ?_;(try simp only [N]);omega
        refine Ok.cond' (fun h11=>?_) (fun h11=>?_)
        ·(try simp only [B] at h11);refine Ok.cond' (fun h12=>?_) (fun h12=>?_)
         ·(try simp only [B] at h12);refine Ok.some' ?_;(try simp only [N]);omega
         ·(try simp only [B] at h12);refine Ok.bind (Ok.idx ?_ ?_) (fun e18 he18=>?_)
          ·(try simp only [N]);omega
          ·(try simp only [N]);omega
          have he18w:=wt_at he18;(try simp only [N] at he18w);refine Ok.guard ?_ ?_
          ·(try simp only [N]);omega
          refine hk17 _ ?_;(try simp only [N]);omega
        ·(try simp only [B] at h11);refine Ok.join (fun y19:(List UInt8)=>y19.length≤500000000) (fun y19 hy19=>?_) (fun k20 hk20=>?_)
         ·(try simp only [N] at hy19);refine hk17 _ ?_;(try simp only [N]);omega
         refine Ok.cond' (fun h13=>?_) (fun h13=>?_)
         ·(try simp only [B] at h13);refine Ok.chk ?_ ?_
          ·(try have:=isub_eq (a:=(x3.1.length:Int)) (b:=r10) (by omega) (by omega));(try simp only [B]);omega
          refine Ok.bind (Ok.get ?_) (fun e21 he21=>?_)
          ·(try have:=isub_eq (a:=(x3.1.length:Int)) (b:=r10) (by omega) (by omega));(try simp only [N]);omega
          have he21w:=wt_at he21;(try simp only [N] at he21w);refine Ok.bind (cutO_t ?_) (fun r22 hr22=>?_)
          ·(try simp only [N]);omega
          (try simp only [N] at hr22);refine Ok.cond' (fun h14=>?_) (fun h14=>?_)
          ·(try simp only [B] at h14);refine Ok.some' ?_;(try simp only [N]);omega
          ·(try simp only [B] at h14);refine hk20 _ ?_;(try simp only [N]);omega
         ·(try simp only [B] at h13);refine Ok.join (fun y23:(List UInt8)=>y23.length≤500000000) (fun y23 hy23=>?_) (fun k24 hk24=>?_)
          ·(try simp only [N] at hy23);refine hk20 _ ?_;(try simp only [N]);omega
          refine Ok.cond' (fun h15=>?_) (fun h15=>?_)
          ·(try simp only [B] at h15);refine Ok.chk ?_ ?_
           ·(try have:=isub_eq (a:=(x3.1.length:Int)) (b:=r10) (by omega) (by omega));(try simp only [B]);omega
           refine Ok.bind (Ok.get ?_) (fun e25 he25=>?_)
           ·(try have:=isub_eq (a:=(x3.1.length:Int)) (b:=r10) (by omega) (by omega));(try simp only [N]);omega
           have he25w:=wt_at he25;(try simp only [N] at he25w);refine Ok.guard ?_ ?_
           ·(try simp only [N]);omega
           refine Ok.chk ?_ ?_
           ·(try have:=isub_eq (a:=(x3.1.length:Int)) (b:=r10) (by omega) (by omega));(try have:=iadd_eq (a:=(isub .i64 (x3.1.length:Int) r10)) (b:=1) (by omega) (by omega));(try simp only [B]);omega
           refine Ok.bind (Ok.get ?_) (fun e27 he27=>?_)
           ·(try have:=isub_eq (a:=(x3.1.length:Int)) (b:=r10) (by omega) (by omega));(try have:=iadd_eq (a:=(isub .i64 (x3.1.length:Int) r10)) (b:=1) (by omega) (by omega));(try simp only [N]);omega
           have he27w:=wt_at he27;(try simp only [N] at he27w);refine Ok.guard ?_ ?_
           ·(try simp only [N]);omega
           refine hk24 _ ?_;(try simp only [N]);omega
          ·(try simp only [B] at h15);refine Ok.join (fun y28:(List UInt8)=>y28.length≤500000000) (fun y28 hy28=>?_) (fun k29 hk29=>?_)
           ·(try simp only [N] at hy28);refine hk24 _ ?_;(try simp only [N]);omega
           refine Ok.cond' (fun h16=>?_) (fun h16=>?_)
           ·(try simp only [B] at h16);refine Ok.chk ?_ ?_
            ·(try have:=isub_eq (a:=(x3.1.length:Int)) (b:=r10) (by omega) (by omega));(try simp only [B]);omega
            refine Ok.bind (Ok.get ?_) (fun e30 he30=>?_)
            ·(try have:=isub_eq (a:=(x3.1.length:Int)) (b:=r10) (by omega) (by omega));(try simp only [N]);omega
            have he30w:=wt_at he30;(try simp only [N] at he30w);refine Ok.chk ?_ ?_
            ·(try have:=isub_eq (a:=(x3.1.length:Int)) (b:=r10) (by omega) (by omega));(try have:=iadd_eq (a:=(isub .i64 (x3.1.length:Int) r10)) (b:=1) (by omega) (by omega));(try simp only [B]);omega
            refine Ok.bind (Ok.get ?_) (fun e32 he32=>?_)
            ·(try have:=isub_eq (a:=(x3.1.length:Int)) (b:=r10) (by omega) (by omega));(try have:=iadd_eq (a:=(isub .i64 (x3.1.length:Int) r10)) (b:=1) (by omega) (by omega));(try simp only [N]);omega
            have he32w:=wt_at he32;(try simp only [N] at he32w);refine Ok.cond' (fun h17=>?_) (fun h17=>?_)
            ·(try simp only [B] at h17);refine Ok.some' ?_;(try simp only [N]);omega
            ·(try simp only [B] at h17);refine Ok.join (fun y33:(List UInt8)=>y33.length≤500000000) (fun y33 hy33=>?_) (fun k34 hk34=>?_)
             ·(try simp only [N] at hy33);refine hk29 _ ?_;(try simp only [N]);omega
             refine Ok.loop (fun x35:(List UInt8) × Int=>0≤x35.2∧x35.2≤(e30.length:Int)∧(x35.1.length:Int)=x35.2) (fun x35:(List UInt8) × Int=>((e30.length:Int) - x35.2).toNat) (fun x35 hx35 k36 hk36=>?_) ?_ ?_
             ·(try simp only [N] at hx35);refine Ok.chk ?_ ?_
              ·(try have:=isub_eq (a:=(x3.1.length:Int)) (b:=r10) (by omega) (by omega));(try simp only [B]);omega
              refine Ok.bind (Ok.get ?_) (fun e37 he37=>?_)
              ·(try have:=isub_eq (a:=(x3.1.length:Int)) (b:=r10) (by omega) (by omega));(try simp only [N]);omega
              have he37w:=wt_at he37;(try simp only [N] at he37w);obtain rfl:e30=e37:=Option.some.inj (he30.symm.trans he37);refine Ok.cond' (fun h18=>?_) (fun h18=>?_)
              ·(try simp only [B] at h18);refine Ok.chk ?_ ?_
               ·(try have:=isub_eq (a:=(x3.1.length:Int)) (b:=r10) (by omega) (by omega));(try simp only [B]);omega
               refine Ok.bind (Ok.get ?_) (fun e38 he38=>?_)
               ·(try have:=isub_eq (a:=(x3.1.length:Int)) (b:=r10) (by omega) (by omega));(try simp only [N]);omega
               have he38w:=wt_at he38;(try simp only [N] at he38w);obtain rfl:e30=e38:=Option.some.inj (he30.symm.trans he38);refine Ok.bind (Ok.idx ?_ ?_) (fun e39 he39=>?_)
               ·(try simp only [N]);omega
               ·(try simp only [N]);omega
               have he39w:=wt_at he39;(try simp only [N] at he39w);refine Ok.chk ?_ ?_
               ·(try have:=isub_eq (a:=(x3.1.length:Int)) (b:=r10) (by omega) (by omega));(try have:=iadd_eq (a:=(isub .i64 (x3.1.length:Int) r10)) (b:=1) (by omega) (by omega));(try simp only [B]);omega
               refine Ok.bind (Ok.get ?_) (fun e41 he41=>?_)
               ·(try have:=isub_eq (a:=(x3.1.length:Int)) (b:=r10) (by omega) (by omega));(try have:=iadd_eq (a:=(isub .i64 (x3.1.length:Int) r10)) (b:=1) (by omega) (by omega));(try simp only [N]);omega
               have he41w:=wt_at he41;(try simp only [N] at he41w);obtain rfl:e32=e41:=Option.some.inj (he32.symm.trans he41);refine Ok.bind (Ok.idx ?_ ?_) (fun e42 he42=>?_)
               ·(try simp only [N]);omega
               ·(try simp only [N]);omega
               have he42w:=wt_at he42;(try simp only [N] at he42w);refine Ok.guard ?_ ?_
               ·(try simp only [N]);omega
               refine hk36 _ ?_ ?_
               ·(try have:=iadd_eq (a:=x35.2) (b:=1) (by omega) (by omega));(try simp only [N]);omega
               ·(try have:=iadd_eq (a:=x35.2) (b:=1) (by omega) (by omega));(try simp only);omega
              ·(try simp only [B] at h18);refine hk34 _ ?_;(try simp only [N]);omega
             ·(try simp only [N]);omega
             ·(try simp only);omega
           ·(try simp only [B] at h16);refine Ok.join (fun y44:(List UInt8)=>y44.length≤500000000) (fun y44 hy44=>?_) (fun k45 hk45=>?_)
            ·(try simp only [N] at hy44);refine hk29 _ ?_;(try simp only [N]);omega
            refine Ok.cond' (fun h19=>?_) (fun h19=>?_)
            ·(try simp only [B] at h19);refine Ok.chk ?_ ?_
             ·(try have:=isub_eq (a:=(x3.1.length:Int)) (b:=r10) (by omega) (by omega));(try simp only [B]);omega
             refine Ok.bind (Ok.get ?_) (fun e46 he46=>?_)
             ·(try have:=isub_eq (a:=(x3.1.length:Int)) (b:=r10) (by omega) (by omega));(try simp only [N]);omega
             have he46w:=wt_at he46;(try simp only [N] at he46w);refine Ok.chk ?_ ?_
             ·(try have:=isub_eq (a:=(x3.1.length:Int)) (b:=r10) (by omega) (by omega));(try have:=iadd_eq (a:=(isub .i64 (x3.1.length:Int) r10)) (b:=1) (by omega) (by omega));(try simp only [B]);omega
             refine Ok.bind (Ok.get ?_) (fun e48 he48=>?_)
             ·(try have:=isub_eq (a:=(x3.1.length:Int)) (b:=r10) (by omega) (by omega));(try have:=iadd_eq (a:=(isub .i64 (x3.1.length:Int) r10)) (b:=1) (by omega) (by omega));(try simp only [N]);omega
             have he48w:=wt_at he48;(try simp only [N] at he48w);have hhm:=hmac_le e46 e48;(try simp only [N] at hhm);refine hk45 _ ?_;(try simp only [N]);omega
            ·(try simp only [B] at h19);refine Ok.join (fun y50:(List UInt8)=>y50.length≤500000000) (fun y50 hy50=>?_) (fun k51 hk51=>?_)
             ·(try simp only [N] at hy50);refine hk45 _ ?_;(try simp only [N]);omega
             refine Ok.cond' (fun h20=>?_) (fun h20=>?_)
             ·(try simp only [B] at h20);refine Ok.chk ?_ ?_
              ·(try have:=isub_eq (a:=(x3.1.length:Int)) (b:=r10) (by omega) (by omega));(try simp only [B]);omega
              refine Ok.bind (Ok.get ?_) (fun e52 he52=>?_)
              ·(try have:=isub_eq (a:=(x3.1.length:Int)) (b:=r10) (by omega) (by omega));(try simp only [N]);omega
              have he52w:=wt_at he52;(try simp only [N] at he52w);refine Ok.chk ?_ ?_
              ·(try have:=isub_eq (a:=(x3.1.length:Int)) (b:=r10) (by omega) (by omega));(try have:=iadd_eq (a:=(isub .i64 (x3.1.length:Int) r10)) (b:=1) (by omega) (by omega));(try simp only [B]);omega
              refine Ok.bind (Ok.get ?_) (fun e54 he54=>?_)
              ·(try have:=isub_eq (a:=(x3.1.length:Int)) (b:=r10) (by omega) (by omega));(try have:=iadd_eq (a:=(isub .i64 (x3.1.length:Int) r10)) (b:=1) (by omega) (by omega));(try simp only [N]);omega
              have he54w:=wt_at he54;(try simp only [N] at he54w);refine Ok.bind (spec_Tag_t) (fun r55 hr55=>?_);(try simp only [N] at hr55);refine hk51 _ ?_;(try simp only [N]);omega
             ·(try simp only [B] at h20);refine Ok.join (fun y56:(List UInt8)=>y56.length≤500000000) (fun y56 hy56=>?_) (fun k57 hk57=>?_)
              ·(try simp only [N] at hy56);refine hk51 _ ?_;(try simp only [N]);omega
              refine Ok.cond' (fun h21=>?_) (fun h21=>?_)
              ·(try simp only [B] at h21);refine Ok.chk ?_ ?_
               ·(try have:=isub_eq (a:=(x3.1.length:Int)) (b:=r10) (by omega) (by omega));(try simp only [B]);omega
               refine Ok.bind (Ok.get ?_) (fun e58 he58=>?_)
               ·(try have:=isub_eq (a:=(x3.1.length:Int)) (b:=r10) (by omega) (by omega));(try simp only [N]);omega
               have he58w:=wt_at he58;(try simp only [N] at he58w);refine Ok.bind (deriveO_t ?_) (fun r59 hr59=>?_)
               ·(try simp only [N]);omega
               (try simp only [N] at hr59);refine hk57 _ ?_;(try simp only [N]);omega
              ·(try simp only [B] at h21);refine Ok.join (fun y60:(List UInt8)=>y60.length≤500000000) (fun y60 hy60=>?_) (fun k61 hk61=>?_)
               ·(try simp only [N] at hy60);refine hk57 _ ?_;(try simp only [N]);omega
               refine Ok.cond' (fun h22=>?_) (fun h22=>?_)
               ·(try simp only [B] at h22);refine Ok.chk ?_ ?_
                ·(try have:=isub_eq (a:=(x3.1.length:Int)) (b:=r10) (by omega) (by omega));(try simp only [B]);omega
                refine Ok.bind (Ok.get ?_) (fun e62 he62=>?_)
                ·(try have:=isub_eq (a:=(x3.1.length:Int)) (b:=r10) (by omega) (by omega));(try simp only [N]);omega
                have he62w:=wt_at he62;(try simp only [N] at he62w);refine Ok.chk ?_ ?_
                ·(try have:=isub_eq (a:=(x3.1.length:Int)) (b:=r10) (by omega) (by omega));(try have:=iadd_eq (a:=(isub .i64 (x3.1.length:Int) r10)) (b:=1) (by omega) (by omega));(try simp only [B]);omega
                refine Ok.bind (Ok.get ?_) (fun e64 he64=>?_)
                ·(try have:=isub_eq (a:=(x3.1.length:Int)) (b:=r10) (by omega) (by omega));(try have:=iadd_eq (a:=(isub .i64 (x3.1.length:Int) r10)) (b:=1) (by omega) (by omega));(try simp only [N]);omega
                have he64w:=wt_at he64;(try simp only [N] at he64w);refine Ok.chk ?_ ?_
                ·(try have:=isub_eq (a:=(x3.1.length:Int)) (b:=r10) (by omega) (by omega));(try have:=iadd_eq (a:=(isub .i64 (x3.1.length:Int) r10)) (b:=2) (by omega) (by omega));(try simp only [B]);omega
                refine Ok.bind (Ok.get ?_) (fun e66 he66=>?_)
                ·(try have:=isub_eq (a:=(x3.1.length:Int)) (b:=r10) (by omega) (by omega));(try have:=iadd_eq (a:=(isub .i64 (x3.1.length:Int) r10)) (b:=2) (by omega) (by omega));(try simp only [N]);omega
                have he66w:=wt_at he66;(try simp only [N] at he66w);refine Ok.bind (spec_Mix_t ?_ ?_) (fun r67 hr67=>?_)
                ·(try simp only [N]);omega
                ·(try simp only [N]);omega
                (try simp only [N] at hr67);refine hk61 _ ?_;(try simp only [N]);omega
               ·(try simp only [B] at h22);refine hk61 _ ?_;(try simp only [N]);omega
    refine Ok.bind (spec_StepOk_t) (fun r8 hr8=>?_);obtain ⟨hr8,hr8i⟩:=hr8;refine Ok.cond' (fun h23=>?_) (fun h23=>?_)
    ·exact hk7 _ fun h=>nomatch h
    ·(try simp only [B] at h23);replace hr8i:=hr8i h23;(try simp only [N] at hr8i);refine Ok.bind (spec_l24Need_t ?_) (fun r9 hr9=>?_)
     ·(try simp only [N]);omega
     (try simp only [N] at hr9);refine hk7 _ fun q24=>?_;(try simp only [B] at q24);(try simp only [N]);omega
   ·(try simp only [B] at h3);refine hk2 _ ?_;(try simp only [N]);omega
  ·(try simp only [N]);omega
  ·(try simp only);omega
theorem spec_Wind_t {a0:G.Dice} {a1:Int} (ha:wt a0≤1000000000):Ok (spec_Wind.raw a0 a1) fun r=>wt r≤wt a0:=by
 (try simp only [N] at ha);have hL:=LIM_is
 unfold spec_Wind.raw
 refine Ok.same (pt_some ?_) ?_
 ·(try simp only [N]);omega
 refine Ok.join (fun y2:Bool=>True) (fun y2 hy2=>?_) (fun k3 hk3=>?_)
 ·refine Ok.join (fun y4:G.Dice=>wt y4≤wt a0) (fun y4 hy4=>?_) (fun k5 hk5=>?_)
  ·(try simp only [N] at hy4);refine Ok.some' ?_;(try simp only [N]);omega
  refine Ok.cond' (fun h1=>?_) (fun h1=>?_)
  ·refine hk5 _ ?_;(try simp only [N]);omega
  ·refine hk5 _ ?_;(try simp only [N]);omega
 refine Ok.cond' (fun h2=>?_) (fun h2=>?_)
 ·exact hk3 _ trivial
 ·exact hk3 _ trivial
theorem spec_l26See_t {a0:G.World} {a1:List G.Wire} {a2:List G.Note} (ha:wt a0≤1000000000) (hb:wt a1≤1000) (hc:wt a2≤1000000) (hd:TW a0):Ok (spec_l26See.raw a0 a1 a2) fun r=>wt r≤wt a0+1003000+wt a2∧wt r.Clients+wt r.S≤wt a0.Clients+wt a0.S∧TW r:=by
 (try simp only [N] at ha);(try simp only [N] at hb);(try simp only [N] at hc);(try simp only [N] at hd);have hL:=LIM_is;have hw:=wt_len a1;(try simp only [N] at hw)
 unfold spec_l26See.raw
 refine Ok.join (fun y1:G.World=>wt y1≤wt a0+1003000∧wt y1.Clients+wt y1.S≤wt a0.Clients+wt a0.S∧TW y1) (fun y1 hy1=>?_) (fun k2 hk2=>?_)
 ·(try simp only [N] at hy1);refine Ok.guard ?_ ?_
  ·(try simp only [N]);omega
  refine Ok.some' ?_;(try simp only [N]);omega
 refine Ok.loop (fun x3:Int × G.World=>0≤x3.1∧x3.1≤(a1.length:Int)∧wt x3.2≤wt a0+1001 *x3.1∧wt x3.2.Clients+wt x3.2.S≤wt a0.Clients+wt a0.S∧TW x3.2) (fun x3:Int × G.World=>((a1.length:Int) - x3.1).toNat) (fun x3 hx3 k4 hk4=>?_) ?_ ?_
 ·(try simp only [N] at hx3);refine Ok.cond' (fun h1=>?_) (fun h1=>?_)
  ·(try simp only [B] at h1);refine Ok.join (fun y5:G.World=>wt y5≤wt a0+1001 *x3.1+1001∧wt y5.Clients+wt y5.S≤wt a0.Clients+wt a0.S∧TW y5) (fun y5 hy5=>?_) (fun k6 hk6=>?_)
   ·(try simp only [N] at hy5);refine hk4 _ ?_ ?_
    ·(try have:=iadd_eq (a:=x3.1) (b:=1) (by omega) (by omega));(try simp only [N]);omega
    ·(try have:=iadd_eq (a:=x3.1) (b:=1) (by omega) (by omega));(try simp only);omega
   refine Ok.cond' (fun h2=>?_) (fun h2=>?_)
   ·(try simp only [B] at h2);refine Ok.bind (Ok.idx ?_ ?_) (fun e7 he7=>?_)
    ·(try simp only [N]);omega
    ·(try simp only [N]);omega
    have he7w:=wt_at he7;(try simp only [N] at he7w);refine Ok.guard ?_ ?_
    ·(try simp only [N]);omega
    refine hk6 _ ?_;(try simp only [N]);omega
   ·(try simp only [B] at h2);refine hk6 _ ?_;(try simp only [N]);omega
  ·(try simp only [B] at h1);refine hk2 _ ?_;(try simp only [N]);omega
 ·(try simp only [N]);omega
 ·(try simp only);omega
theorem spec_l26Client_t {a0:G.World} {a1:Int} {a2:G.Client} {a3:List G.Frame} {a4:List G.Note} (ha:wt a0≤900000000) (hb:wt a2≤wtAt a0.Clients a1.toNat+2000) (hc:a3.length≤3) (hd:wt a3≤1000000) (he:wt a4≤1000000) (hf:TW a0) (hg:0≤a1∧a1≤1) (hh:a2.Id=idAt a0.Clients a1.toNat):Ok (spec_l26Client.raw a0 a1 a2 a3 a4) fun r=>wt r≤wt a0+1006000+wt a4∧wt r.Clients+wt r.S≤wt a0.Clients+wt a0.S+2000∧TW r:=by
 (try simp only [N] at ha);(try simp only [N] at hb);(try simp only [N] at hc);(try simp only [N] at hd);(try simp only [N] at he);(try simp only [N] at hf);(try simp only [N] at hg);(try simp only [N] at hh);have hL:=LIM_is
 unfold spec_l26Client.raw
 refine Ok.chk ?_ ?_
 ·(try simp only [B]);omega
 refine Ok.bind (Ok.get ?_) (fun e1 he1=>?_)
 ·(try simp only [N]);omega
 have he1w:=wt_at he1;(try simp only [N] at he1w);have hwa:=wtAt_get he1;(try simp only [N] at hwa);have hs0:=idAt_set (l:=a0.Clients) (i:=a1.toNat) (x:=a2) (by have:=idAt_get he1;omega) (mem_at he1) 0;(try simp only [N] at hs0);have hs1:=idAt_set (l:=a0.Clients) (i:=a1.toNat) (x:=a2) (by have:=idAt_get he1;omega) (mem_at he1) 1;(try simp only [N] at hs1)
 have hsw:=wt_set_eq (x:=a2) he1;(try simp only [N] at hsw);refine Ok.bind (spec_l25Sent_t ?_ ?_) (fun r2 hr2=>?_)
 ·(try simp only [N]);omega
 ·(try simp only [N]);omega
 (try simp only [N] at hr2);refine Ok.bind (spec_l26See_t ?_ ?_ ?_ ?_) (fun r3 hr3=>?_)
 ·have:=wt_set_le a0.Clients a1.toNat a2;(try simp only [N] at this);(try simp only [N]);omega
 ·have:=wt_set_le a0.Clients a1.toNat a2;(try simp only [N] at this);(try simp only [N]);omega
 ·have:=wt_set_le a0.Clients a1.toNat a2;(try simp only [N] at this);(try simp only [N]);omega
 ·have:=wt_set_le a0.Clients a1.toNat a2;(try simp only [N] at this);(try simp only [N]);omega
 (try simp only [N] at hr3);refine Ok.some' ?_;(try simp only [N]);omega
theorem spec_l25Post_t {a0:G.World} {a1:Int} {a2:G.Addr} {a3:List UInt8} (ha:wt a0≤900000000) (hb:wt a3≤900000000) (hc:TW a0) (hd:0≤a1∧a1≤2):Ok (spec_l25Post.raw a0 a1 a2 a3) fun r=>wt r.1≤1000∧wt r.2≤wt a0+100000∧wt r.2.Clients+wt r.2.S≤wt a0.Clients+wt a0.S+50000∧TW r.2:=by
 (try simp only [N] at ha);(try simp only [N] at hb);(try simp only [N] at hc);(try simp only [N] at hd);have hL:=LIM_is
 unfold spec_l25Post.raw
 refine Ok.cond' (fun h1=>?_) (fun h1=>?_)
 ·(try simp only [B] at h1);refine Ok.bind (spec_ServerHear_t ?_ ?_) (fun r1 hr1=>?_)
  ·(try simp only [N]);omega
  ·(try simp only [N]);omega
  (try simp only [N] at hr1);refine Ok.guard ?_ ?_
  ·(try simp only [N]);omega
  refine Ok.bind (spec_l25Outs_t ?_) (fun r2 hr2=>?_)
  ·(try simp only [N]);omega
  (try simp only [N] at hr2);refine Ok.some' ?_;(try simp only [N]);omega
 ·(try simp only [B] at h1);refine Ok.bind (spec_GetFrame_t ?_) (fun r3 hr3=>?_)
  ·(try simp only [N]);omega
  (try simp only [N] at hr3);refine Ok.cond' (fun h2=>?_) (fun h2=>?_)
  ·(try simp only [B] at h2);refine Ok.some' ?_;(try simp only [N]);omega
  ·(try simp only [B] at h2);refine Ok.chk ?_ ?_
   ·(try have:=isub_eq (a:=a1) (b:=1) (by omega) (by omega));(try simp only [B]);omega
   refine Ok.bind (Ok.get ?_) (fun e4 he4=>?_)
   ·(try have:=isub_eq (a:=a1) (b:=1) (by omega) (by omega));(try simp only [N]);omega
   have he4w:=wt_at he4;(try simp only [N] at he4w);refine Ok.bind (spec_ClientHear_t ?_ ?_) (fun r5 hr5=>?_)
   ·(try simp only [N]);omega
   ·(try simp only [N]);omega
   (try simp only [N] at hr5);refine Ok.chk ?_ ?_
   ·(try have:=isub_eq (a:=a1) (b:=1) (by omega) (by omega));(try simp only [B]);omega
   refine Ok.bind (Ok.get ?_) (fun e6 he6=>?_)
   ·(try have:=isub_eq (a:=a1) (b:=1) (by omega) (by omega));(try simp only [N]);omega
   have he6w:=wt_at he6;(try simp only [N] at he6w);obtain rfl:e4=e6:=Option.some.inj (he4.symm.trans he6);have hs0:=idAt_set (l:=a0.Clients) (i:=(isub .i64 a1 1).toNat) (x:=r5.1) (by have:=idAt_get he4;omega) (mem_at he4) 0;(try simp only [N] at hs0)
   have hs1:=idAt_set (l:=a0.Clients) (i:=(isub .i64 a1 1).toNat) (x:=r5.1) (by have:=idAt_get he4;omega) (mem_at he4) 1;(try simp only [N] at hs1);have hsw:=wt_set_eq (x:=r5.1) he4;(try simp only [N] at hsw);refine Ok.guard ?_ ?_
   ·(try simp only [N]);omega
   refine Ok.bind (spec_l25Sent_t ?_ ?_) (fun r7 hr7=>?_)
   ·(try simp only [N]);omega
   ·(try simp only [N]);omega
   (try simp only [N] at hr7);refine Ok.some' ?_;(try have:=isub_eq (a:=a1) (b:=1) (by omega) (by omega));have:=wt_set_le a0.Clients ((isub .i64 a1 1).toNat) r5.1;(try simp only [N] at this);(try simp only [N]);omega
theorem spec_l26Post_t {a0:G.World} {a1:Int} {a2:G.Addr} {a3:List UInt8} (ha:wt a0≤800000000) (hb:wt a3≤900000000) (hc:TW a0) (hd:0≤a1∧a1≤2):Ok (spec_l26Post.raw a0 a1 a2 a3) fun r=>wt r≤wt a0+1200000∧wt r.Clients+wt r.S≤wt a0.Clients+wt a0.S+50000∧TW r:=by
 (try simp only [N] at ha);(try simp only [N] at hb);(try simp only [N] at hc);(try simp only [N] at hd);have hL:=LIM_is
 unfold spec_l26Post.raw
 refine Ok.bind (spec_l25Post_t ?_ ?_ ?_ ?_) (fun r1 hr1=>?_)
 ·(try simp only [N]);omega
 ·(try simp only [N]);omega
 ·(try simp only [N]);omega
 ·(try simp only [N]);omega
 (try simp only [N] at hr1);refine Ok.bind (spec_l26See_t ?_ ?_ ?_ ?_) (fun r2 hr2=>?_)
 ·(try simp only [N]);omega
 ·(try simp only [N]);omega
 ·(try simp only [N]);omega
 ·(try simp only [N]);omega
 (try simp only [N] at hr2);refine Ok.some' ?_;(try simp only [N]);omega
theorem spec_l26Show_t {a0:G.World} {a1:G.Chan} (ha:wt a0≤900000000) (hb:wt a1≤4000000) (hc:TW a0):Ok (spec_l26Show.raw a0 a1) fun r=>wt r.2≤wt a0+4001000∧wt r.2.Clients+wt r.2.S≤wt a0.Clients+wt a0.S∧TW r.2:=by
 (try simp only [N] at ha);(try simp only [N] at hb);(try simp only [N] at hc);have hL:=LIM_is;have hk:=wt_len a0.Known;(try simp only [N] at hk)
 unfold spec_l26Show.raw
 refine Ok.bind (spec_KeysOf_t ?_) (fun r1 hr1=>?_)
 ·(try simp only [N]);omega
 (try simp only [N] at hr1);have hl:=wt_len r1;(try simp only [N] at hl);refine Ok.cond' (fun h1=>?_) (fun h1=>?_)
 ·(try simp only [B] at h1);(try have:=iadd_eq (a:=(a0.Known.length:Int)) (b:=(r1.length:Int)) (by omega) (by omega));refine Ok.some' ?_;(try simp only [N]);omega
 ·(try simp only [B] at h1);(try have:=iadd_eq (a:=(a0.Known.length:Int)) (b:=(r1.length:Int)) (by omega) (by omega));refine Ok.guard ?_ ?_
  ·(try simp only [N]);omega
  refine Ok.guard ?_ ?_
  ·(try simp only [N]);omega
  refine Ok.guard ?_ ?_
  ·(try simp only [N]);omega
  refine Ok.some' ?_;(try simp only [N]);omega
theorem spec_l25Tick_t {a0:G.World} (ha:wt a0≤800000000) (hb:TW a0):Ok (spec_l25Tick.raw a0) fun r=>wt r.1≤1000∧wt r.2≤wt a0+120000∧wt r.2.Clients+wt r.2.S≤wt a0.Clients+wt a0.S+60000∧TW r.2:=by
 (try simp only [N] at ha);(try simp only [N] at hb);have hL:=LIM_is
 unfold spec_l25Tick.raw
 refine Ok.join (fun y1:(List G.Wire) × G.World=>wt y1.1≤804∧wt y1.2≤wt a0+6000∧wt y1.2.Clients+wt y1.2.S≤wt a0.Clients+wt a0.S∧TW y1.2) (fun y1 hy1=>?_) (fun k2 hk2=>?_)
 ·(try simp only [N] at hy1);refine Ok.bind (spec_ServerTick_t ?_) (fun r9 hr9=>?_)
  ·(try simp only [N]);omega
  (try simp only [N] at hr9);refine Ok.guard ?_ ?_
  ·(try simp only [N]);omega
  refine Ok.some' ?_;(try simp only [N]);omega
 refine Ok.loop (fun x3:(List G.Wire) × Int × G.World=>0≤x3.2.1∧x3.2.1≤2∧wt x3.1≤402 *x3.2.1∧wt x3.2.2≤wt a0+3000 *x3.2.1∧wt x3.2.2.Clients+wt x3.2.2.S≤wt a0.Clients+wt a0.S∧TW x3.2.2) (fun x3:(List G.Wire) × Int × G.World=>(2 - x3.2.1).toNat) (fun x3 hx3 k4 hk4=>?_) ?_ ?_
 ·(try simp only [N] at hx3);refine Ok.cond' (fun h1=>?_) (fun h1=>?_)
  ·(try simp only [B] at h1);refine Ok.chk ?_ ?_
   ·(try simp only [B]);omega
   refine Ok.bind (Ok.get ?_) (fun e5 he5=>?_)
   ·(try simp only [N]);omega
   have he5w:=wt_at he5;(try simp only [N] at he5w);refine Ok.bind (spec_ClientTick_t ?_) (fun r6 hr6=>?_)
   ·(try simp only [N]);omega
   (try simp only [N] at hr6);refine Ok.chk ?_ ?_
   ·(try simp only [B]);omega
   refine Ok.bind (Ok.get ?_) (fun e7 he7=>?_)
   ·(try simp only [N]);omega
   have he7w:=wt_at he7;(try simp only [N] at he7w);obtain rfl:e5=e7:=Option.some.inj (he5.symm.trans he7);have hs0:=idAt_set (l:=x3.2.2.Clients) (i:=x3.2.1.toNat) (x:=r6.1) (by have:=idAt_get he5;omega) (mem_at he5) 0;(try simp only [N] at hs0);have hs1:=idAt_set (l:=x3.2.2.Clients) (i:=x3.2.1.toNat) (x:=r6.1) (by have:=idAt_get he5;omega) (mem_at he5) 1
   (try simp only [N] at hs1);have hsw:=wt_set_eq (x:=r6.1) he5;(try simp only [N] at hsw);refine Ok.guard ?_ ?_
   ·(try simp only [N]);omega
   refine Ok.bind (spec_l25Sent_t ?_ ?_) (fun r8 hr8=>?_)
   ·(try simp only [N]);omega
   ·(try simp only [N]);omega
   (try simp only [N] at hr8);refine Ok.guard ?_ ?_
   ·(try simp only [N]);omega
   refine hk4 _ ?_ ?_
   ·(try have:=iadd_eq (a:=x3.2.1) (b:=1) (by omega) (by omega));have:=wt_set_le x3.2.2.Clients x3.2.1.toNat r6.1;(try simp only [N] at this);(try simp only [N]);omega
   ·(try have:=iadd_eq (a:=x3.2.1) (b:=1) (by omega) (by omega));have:=wt_set_le x3.2.2.Clients x3.2.1.toNat r6.1;(try simp only [N] at this);(try simp only);omega
  ·(try simp only [B] at h1);refine hk2 _ ?_;(try simp only [N]);omega
 ·(try have:=iadd_eq (a:=a0.Now) (b:=1) (by omega) (by omega));(try simp only [N]);omega
 ·(try have:=iadd_eq (a:=a0.Now) (b:=1) (by omega) (by omega));(try simp only);omega
theorem spec_l26Do_t {a0:G.World} {a1:G.Event} (ha:wt a0≤400000000) (hb:wt a0.Clients+wt a0.S≤4000000) (hc:TW a0) (hd:0≤a1.I∧0≤a1.J∧0≤a1.N) (he:wt a1≤5000):Ok (spec_l26Do.raw a0 a1) fun r=>wt r.2≤wt a0+5100000∧wt r.2.Clients+wt r.2.S≤wt a0.Clients+wt a0.S+61000∧TW r.2:=by
 (try simp only [N] at ha);(try simp only [N] at hb);(try simp only [N] at hc);(try simp only [N] at hd);(try simp only [N] at he);have hL:=LIM_is;have hsn:=wt_len a0.Seen;(try simp only [N] at hsn);have hd1:=irem_lo (a:=a1.I) (n:=2) (by omega) (by omega);(try simp only [N] at hd1);have hd2:=irem_lo (a:=a1.J) (n:=3) (by omega) (by omega);(try simp only [N] at hd2)
 unfold spec_l26Do.raw
 refine Ok.join (fun y1:Bool=>True) (fun y1 hy1=>?_) (fun k2 hk2=>?_)
 ·refine Ok.join (fun y3:G.Wire=>wt y3≤wt a0) (fun y3 hy3=>?_) (fun k4 hk4=>?_)
  ·(try simp only [N] at hy3);refine Ok.join (fun y6:G.World=>wt y6≤wt a0+5100000∧wt y6.Clients+wt y6.S≤wt a0.Clients+wt a0.S+61000∧TW y6) (fun y6 hy6=>?_) (fun k7 hk7=>?_)
   ·(try simp only [N] at hy6);refine Ok.some' ?_;(try simp only [N]);omega
   refine Ok.cond' (fun h1=>?_) (fun h1=>?_)
   ·(try simp only [B] at h1);refine Ok.bind (rollO_t ?_) (fun r8 hr8=>?_)
    ·(try simp only [N]);omega
    (try simp only [N] at hr8)
    have hn:wt (noteRolled r8.2)=wt r8.2:=by simp only [noteRolled,wt_Note,wt_Addr,wt_bytes,List.length_nil];omega
    (try simp only [N] at hn);refine Ok.chk ?_ ?_
    ·(try simp only [B]);omega
    refine Ok.bind (Ok.get ?_) (fun e9 he9=>?_)
    ·(try simp only [N]);omega
    have he9w:=wt_at he9;(try simp only [N] at he9w);have hie9:=idAt_get he9;(try simp only [N] at hie9);have hve9:=wtAt_get he9;(try simp only [N] at hve9);refine Ok.bind (spec_Dial_t ?_ ?_) (fun r10 hr10=>?_)
    ·(try simp only [N]);omega
    ·(try simp only [N]);omega
    (try simp only [N] at hr10);refine Ok.cond' (fun h2=>?_) (fun h2=>?_)
    ·(try simp only [B] at h2);refine Ok.some' ?_;(try simp only [N]);omega
    ·(try simp only [B] at h2);refine Ok.same (noteRolledO_s ?_) ?_
     ·(try simp only [N]);omega
     refine Ok.guard ?_ ?_
     ·(try simp only [N]);omega
     refine Ok.bind (spec_l26Client_t ?_ ?_ ?_ ?_ ?_ ?_ ?_ ?_) (fun r12 hr12=>?_)
     ·(try simp only [N]);omega
     ·(try simp only [N]);omega
     ·(try simp only [N]);omega
     ·(try simp only [N]);omega
     ·(try simp only [N]);omega
     ·(try simp only [N]);omega
     ·(try simp only [N]);omega
     ·(try simp only);omega
     (try simp only [N] at hr12);refine hk7 _ ?_;(try simp only [N]);omega
   ·(try simp only [B] at h1);refine Ok.join (fun y13:G.World=>wt y13≤wt a0+5100000∧wt y13.Clients+wt y13.S≤wt a0.Clients+wt a0.S+61000∧TW y13) (fun y13 hy13=>?_) (fun k14 hk14=>?_)
    ·(try simp only [N] at hy13);refine hk7 _ ?_;(try simp only [N]);omega
    refine Ok.cond' (fun h3=>?_) (fun h3=>?_)
    ·(try simp only [B] at h3);refine Ok.chk ?_ ?_
     ·(try simp only [B]);omega
     refine Ok.bind (Ok.get ?_) (fun e15 he15=>?_)
     ·(try simp only [N]);omega
     have he15w:=wt_at he15;(try simp only [N] at he15w);have hie15:=idAt_get he15;(try simp only [N] at hie15);have hve15:=wtAt_get he15;(try simp only [N] at hve15);refine Ok.bind (spec_ClientSend_t ?_ ?_) (fun r16 hr16=>?_)
     ·(try simp only [N]);omega
     ·(try simp only [N]);omega
     (try simp only [N] at hr16);refine Ok.cond' (fun h4=>?_) (fun h4=>?_)
     ·(try simp only [B] at h4);refine Ok.some' ?_;(try simp only [N]);omega
     ·(try simp only [B] at h4);refine Ok.bind (spec_l26Client_t ?_ ?_ ?_ ?_ ?_ ?_ ?_ ?_) (fun r17 hr17=>?_)
      ·(try simp only [N]);omega
      ·(try simp only [N]);omega
      ·(try simp only [N]);omega
      ·(try simp only [N]);omega
      ·(try simp only [N]);omega
      ·(try simp only [N]);omega
      ·(try simp only [N]);omega
      ·(try simp only [N]);omega
      (try simp only [N] at hr17);refine hk14 _ ?_;(try simp only [N]);omega
    ·(try simp only [B] at h3);refine Ok.join (fun y18:G.World=>wt y18≤wt a0+5100000∧wt y18.Clients+wt y18.S≤wt a0.Clients+wt a0.S+61000∧TW y18) (fun y18 hy18=>?_) (fun k19 hk19=>?_)
     ·(try simp only [N] at hy18);refine hk14 _ ?_;(try simp only [N]);omega
     refine Ok.cond' (fun h5=>?_) (fun h5=>?_)
     ·(try simp only [B] at h5);refine Ok.bind (spec_ServerSend_t ?_ ?_) (fun r20 hr20=>?_)
      ·(try simp only [N]);omega
      ·(try simp only [N]);omega
      (try simp only [N] at hr20);refine Ok.cond' (fun h6=>?_) (fun h6=>?_)
      ·(try simp only [B] at h6);refine Ok.some' ?_;(try simp only [N]);omega
      ·(try simp only [B] at h6);refine Ok.bind (spec_l25Outs_t ?_) (fun r21 hr21=>?_)
       ·(try simp only [N]);omega
       (try simp only [N] at hr21);refine Ok.bind (spec_l26See_t ?_ ?_ ?_ ?_) (fun r22 hr22=>?_)
       ·(try simp only [N]);omega
       ·(try simp only [N]);omega
       ·(try simp only [N]);omega
       ·(try simp only [N]);omega
       (try simp only [N] at hr22);refine hk19 _ ?_;(try simp only [N]);omega
     ·(try simp only [B] at h5);refine Ok.join (fun y23:G.World=>wt y23≤wt a0+5100000∧wt y23.Clients+wt y23.S≤wt a0.Clients+wt a0.S+61000∧TW y23) (fun y23 hy23=>?_) (fun k24 hk24=>?_)
      ·(try simp only [N] at hy23);refine hk19 _ ?_;(try simp only [N]);omega
      refine Ok.cond' (fun h7=>?_) (fun h7=>?_)
      ·(try simp only [B] at h7);refine Ok.cond' (fun h8=>?_) (fun h8=>?_)
       ·(try simp only [B] at h8);refine Ok.some' ?_;(try simp only [N]);omega
       ·(try simp only [B] at h8);refine Ok.bind (spec_l25Tick_t ?_ ?_) (fun r25 hr25=>?_)
        ·(try simp only [N]);omega
        ·(try simp only [N]);omega
        (try simp only [N] at hr25);refine Ok.bind (spec_l26See_t ?_ ?_ ?_ ?_) (fun r26 hr26=>?_)
        ·(try simp only [N]);omega
        ·(try simp only [N]);omega
        ·(try simp only [N]);omega
        ·(try simp only [N]);omega
        (try simp only [N] at hr26);refine hk24 _ ?_;(try simp only [N]);omega
      ·(try simp only [B] at h7);refine Ok.join (fun y27:G.World=>wt y27≤wt a0+5100000∧wt y27.Clients+wt y27.S≤wt a0.Clients+wt a0.S+61000∧TW y27) (fun y27 hy27=>?_) (fun k28 hk28=>?_)
       ·(try simp only [N] at hy27);refine hk24 _ ?_;(try simp only [N]);omega
       refine Ok.cond' (fun h9=>?_) (fun h9=>?_)
       ·(try simp only [B] at h9);refine Ok.chk ?_ ?_
        ·(try simp only [B]);omega
        refine Ok.bind (Ok.get ?_) (fun e29 he29=>?_)
        ·(try simp only [N]);omega
        have he29w:=wt_at he29;(try simp only [N] at he29w);have hie29:=idAt_get he29;(try simp only [N] at hie29);have hve29:=wtAt_get he29;(try simp only [N] at hve29);refine Ok.bind (spec_Roam_t ?_) (fun r31 hr31=>?_)
        ·(try have:=iadd_eq (a:=1) (b:=(irem .i64 a1.N 30)) (by omega) (by omega));(try simp only [N]);omega
        (try simp only [N] at hr31);refine Ok.chk ?_ ?_
        ·(try simp only [B]);omega
        refine Ok.bind (Ok.get ?_) (fun e32 he32=>?_)
        ·(try simp only [N]);omega
        have he32w:=wt_at he32;(try simp only [N] at he32w);obtain rfl:e29=e32:=Option.some.inj (he29.symm.trans he32);have hs0:=idAt_set (l:=a0.Clients) (i:=(irem .i64 a1.I 2).toNat) (x:=r31) (by have:=idAt_get he29;omega) (mem_at he29) 0;(try simp only [N] at hs0)
        have hs1:=idAt_set (l:=a0.Clients) (i:=(irem .i64 a1.I 2).toNat) (x:=r31) (by have:=idAt_get he29;omega) (mem_at he29) 1;(try simp only [N] at hs1);have hsw:=wt_set_eq (x:=r31) he29;(try simp only [N] at hsw);refine hk28 _ ?_;have:=wt_set_le a0.Clients ((irem .i64 a1.I 2).toNat) r31;(try simp only [N] at this);(try simp only [N]);omega
       ·(try simp only [B] at h9);refine Ok.join (fun y33:G.World=>wt y33≤wt a0+5100000∧wt y33.Clients+wt y33.S≤wt a0.Clients+wt a0.S+61000∧TW y33) (fun y33 hy33=>?_) (fun k34 hk34=>?_)
        ·(try simp only [N] at hy33);refine hk28 _ ?_;(try simp only [N]);omega
        refine Ok.cond' (fun h10=>?_) (fun h10=>?_)
        ·(try simp only [B] at h10);refine Ok.chk ?_ ?_
         ·(try simp only [B]);omega
         refine Ok.bind (Ok.get ?_) (fun e35 he35=>?_)
         ·(try simp only [N]);omega
         have he35w:=wt_at he35;(try simp only [N] at he35w);have hie35:=idAt_get he35;(try simp only [N] at hie35);have hve35:=wtAt_get he35;(try simp only [N] at hve35);refine Ok.bind (spec_ClientRekey_t ?_) (fun r36 hr36=>?_)
         ·(try simp only [N]);omega
         (try simp only [N] at hr36);refine Ok.cond' (fun h11=>?_) (fun h11=>?_)
         ·(try simp only [B] at h11);refine Ok.some' ?_;(try simp only [N]);omega
         ·(try simp only [B] at h11);refine Ok.bind (spec_l26Client_t ?_ ?_ ?_ ?_ ?_ ?_ ?_ ?_) (fun r37 hr37=>?_)
          ·(try simp only [N]);omega
          ·(try simp only [N]);omega
          ·(try simp only [N]);omega
          ·(try simp only [N]);omega
          ·(try simp only [N]);omega
          ·(try simp only [N]);omega
          ·(try simp only [N]);omega
          ·(try simp only [N]);omega
          (try simp only [N] at hr37);refine hk34 _ ?_;(try simp only [N]);omega
        ·(try simp only [B] at h10);refine Ok.join (fun y38:G.World=>wt y38≤wt a0+5100000∧wt y38.Clients+wt y38.S≤wt a0.Clients+wt a0.S+61000∧TW y38) (fun y38 hy38=>?_) (fun k39 hk39=>?_)
         ·(try simp only [N] at hy38);refine hk34 _ ?_;(try simp only [N]);omega
         refine Ok.cond' (fun h12=>?_) (fun h12=>?_)
         ·(try simp only [B] at h12);refine Ok.bind (partyAtO_t ?_ ?_) (fun r40 hr40=>?_)
          ·(try simp only [N]);omega
          ·(try simp only [N]);omega
          (try simp only [N] at hr40);refine Ok.cond' (fun h13=>?_) (fun h13=>?_)
          ·(try simp only [B] at h13);refine Ok.some' ?_;(try simp only [N]);omega
          ·(try simp only [B] at h13);refine Ok.bind (spec_l26Post_t ?_ ?_ ?_ ?_) (fun r41 hr41=>?_)
           ·(try simp only [N]);omega
           ·(try simp only [N]);omega
           ·(try simp only [N]);omega
           ·(try simp only [N]);omega
           (try simp only [N] at hr41);refine hk39 _ ?_;(try simp only [N]);omega
         ·(try simp only [B] at h12);refine Ok.join (fun y42:G.World=>wt y42≤wt a0+5100000∧wt y42.Clients+wt y42.S≤wt a0.Clients+wt a0.S+61000∧TW y42) (fun y42 hy42=>?_) (fun k43 hk43=>?_)
          ·(try simp only [N] at hy42);refine hk39 _ ?_;(try simp only [N]);omega
          refine Ok.cond' (fun h14=>?_) (fun h14=>?_)
          ·(try simp only [B] at h14);refine Ok.bind (spec_l26Post_t ?_ ?_ ?_ ?_) (fun r45 hr45=>?_)
           ·(try simp only [N]);omega
           ·(try simp only [N]);omega
           ·(try simp only [N]);omega
           ·(try simp only [N]);omega
           (try simp only [N] at hr45);refine hk43 _ ?_;(try simp only [N]);omega
          ·(try simp only [B] at h14);refine Ok.join (fun y46:G.World=>wt y46≤wt a0+5100000∧wt y46.Clients+wt y46.S≤wt a0.Clients+wt a0.S+61000∧TW y46) (fun y46 hy46=>?_) (fun k47 hk47=>?_)
           ·(try simp only [N] at hy46);refine hk43 _ ?_;(try simp only [N]);omega
           refine Ok.cond' (fun h15=>?_) (fun h15=>?_)
           ·(try simp only [B] at h15);refine Ok.bind (spec_l26Post_t ?_ ?_ ?_ ?_) (fun r48 hr48=>?_)
            ·(try simp only [N]);omega
            ·(try simp only [N]);omega
            ·(try simp only [N]);omega
            ·(try simp only [N]);omega
            (try simp only [N] at hr48);refine hk47 _ ?_;(try simp only [N]);omega
           ·(try simp only [B] at h15);refine Ok.join (fun y49:G.World=>wt y49≤wt a0+5100000∧wt y49.Clients+wt y49.S≤wt a0.Clients+wt a0.S+61000∧TW y49) (fun y49 hy49=>?_) (fun k50 hk50=>?_)
            ·(try simp only [N] at hy49);refine hk47 _ ?_;(try simp only [N]);omega
            refine Ok.cond' (fun h16=>?_) (fun h16=>?_)
            ·(try simp only [B] at h16);refine Ok.bind (partyAtO_t ?_ ?_) (fun r51 hr51=>?_)
             ·(try simp only [N]);omega
             ·(try simp only [N]);omega
             (try simp only [N] at hr51);refine Ok.join (fun y52:Bool=>y52=false→0≤r51∧0<y3.B.length) (fun y52 hy52=>?_) (fun k53 hk53=>?_)
             ·refine Ok.cond' (fun h17=>?_) (fun h17=>?_)
              ·refine Ok.some' ?_;(try simp only [N]);omega
              ·replace hy52:=hy52 h17;(try simp only [N] at hy52);have hd4:=irem_lo (a:=a1.N) (n:=(([]++y3.B).length:Int)) (by omega) (by simp only [N];omega);(try simp only [N] at hd4);refine Ok.guard ?_ ?_
               ·(try simp only [N]);omega
               refine Ok.chkn ?_ ?_
               ·(try simp only [B,N]);omega
               refine Ok.chk ?_ ?_
               ·(try simp only [B,N]);omega
               refine Ok.bind (Ok.get ?_) (fun e55 he55=>?_)
               ·(try simp only [N]);omega
               have he55w:=wt_at he55;(try simp only [N] at he55w);refine Ok.chk ?_ ?_
               ·(try simp only [B,N]);omega
               refine Ok.bind (Ok.get ?_) (fun e57 he57=>?_)
               ·(try simp only [N]);omega
               have he57w:=wt_at he57;(try simp only [N] at he57w);refine Ok.bind (spec_l26Post_t ?_ ?_ ?_ ?_) (fun r59 hr59=>?_)
               ·(try have:=iadd_eq (a:=1) (b:=(irem .i64 a1.J 255)) (by omega) (by omega));have:=wt_set_le ([]++y3.B) (irem .i64 a1.N (([]++y3.B).length:Int):Int).toNat (UInt8.ofNat (ixor .u8 ((e55.toNat:Nat):Int) (IntKind.wrap .u8 (iadd .i64 1 (irem .i64 a1.J 255)):Int):Int).toNat);(try simp only [N] at this);(try simp only [N]);omega
               ·(try have:=iadd_eq (a:=1) (b:=(irem .i64 a1.J 255)) (by omega) (by omega));have:=wt_set_le ([]++y3.B) (irem .i64 a1.N (([]++y3.B).length:Int):Int).toNat (UInt8.ofNat (ixor .u8 ((e55.toNat:Nat):Int) (IntKind.wrap .u8 (iadd .i64 1 (irem .i64 a1.J 255)):Int):Int).toNat);(try simp only [N] at this);(try simp only [N]);omega
               ·(try have:=iadd_eq (a:=1) (b:=(irem .i64 a1.J 255)) (by omega) (by omega));have:=wt_set_le ([]++y3.B) (irem .i64 a1.N (([]++y3.B).length:Int):Int).toNat (UInt8.ofNat (ixor .u8 ((e55.toNat:Nat):Int) (IntKind.wrap .u8 (iadd .i64 1 (irem .i64 a1.J 255)):Int):Int).toNat);(try simp only [N] at this);(try simp only [N]);omega
               ·(try have:=iadd_eq (a:=1) (b:=(irem .i64 a1.J 255)) (by omega) (by omega));have:=wt_set_le ([]++y3.B) (irem .i64 a1.N (([]++y3.B).length:Int):Int).toNat (UInt8.ofNat (ixor .u8 ((e55.toNat:Nat):Int) (IntKind.wrap .u8 (iadd .i64 1 (irem .i64 a1.J 255)):Int):Int).toNat);(try simp only [N] at this);(try simp only [N]);omega
               (try simp only [N] at hr59);refine hk50 _ ?_;(try simp only [N]);omega
             refine Ok.cond' (fun h18=>?_) (fun h18=>?_)
             ·exact hk53 _ fun h=>nomatch h
             ·(try simp only [B] at h18);refine hk53 _ fun q19=>?_;(try simp only [B] at q19);(try simp only [N]);omega
            ·(try simp only [B] at h16);refine Ok.join (fun y60:G.World=>wt y60≤wt a0+5100000∧wt y60.Clients+wt y60.S≤wt a0.Clients+wt a0.S+61000∧TW y60) (fun y60 hy60=>?_) (fun k61 hk61=>?_)
             ·(try simp only [N] at hy60);refine hk50 _ ?_;(try simp only [N]);omega
             refine Ok.cond' (fun h20=>?_) (fun h20=>?_)
             ·(try simp only [B] at h20);refine Ok.bind (spec_Cook_t ?_ ?_ ?_) (fun r62 hr62=>?_)
              ·(try simp only [N]);omega
              ·(try simp only [N]);omega
              ·(try simp only [N]);omega
              (try simp only [N] at hr62);refine Ok.cond' (fun h21=>?_) (fun h21=>?_)
              ·(try simp only [B] at h21);refine Ok.some' ?_;(try simp only [N]);omega
              ·(try simp only [B] at h21);refine Ok.bind (spec_l26Post_t ?_ ?_ ?_ ?_) (fun r64 hr64=>?_)
               ·(try simp only [N]);omega
               ·(try simp only [N]);omega
               ·(try simp only [N]);omega
               ·(try simp only [N]);omega
               (try simp only [N] at hr64);refine hk61 _ ?_;(try simp only [N]);omega
             ·(try simp only [B] at h20);refine Ok.join (fun y65:G.World=>wt y65≤wt a0+5100000∧wt y65.Clients+wt y65.S≤wt a0.Clients+wt a0.S+61000∧TW y65) (fun y65 hy65=>?_) (fun k66 hk66=>?_)
              ·(try simp only [N] at hy65);refine hk61 _ ?_;(try simp only [N]);omega
              refine Ok.cond' (fun h22=>?_) (fun h22=>?_)
              ·(try simp only [B] at h22);refine Ok.bind (spec_Boot_t ?_) (fun r67 hr67=>?_)
               ·(try simp only [N]);omega
               (try simp only [N] at hr67);have hl67:=wt_len r67.2;(try simp only [N] at hl67);refine Ok.cond' (fun h23=>?_) (fun h23=>?_)
               ·(try simp only [B] at h23);refine Ok.some' ?_;(try simp only [N]);omega
               ·(try simp only [B] at h23);refine Ok.bind (spec_l26See_t ?_ ?_ ?_ ?_) (fun r68 hr68=>?_)
                ·(try simp only [N]);omega
                ·(try simp only [N]);omega
                ·(try simp only [N]);omega
                ·(try simp only [N]);omega
                (try simp only [N] at hr68);refine hk66 _ ?_;(try simp only [N]);omega
              ·(try simp only [B] at h22);refine Ok.join (fun y69:G.World=>wt y69≤wt a0+5100000∧wt y69.Clients+wt y69.S≤wt a0.Clients+wt a0.S+61000∧TW y69) (fun y69 hy69=>?_) (fun k70 hk70=>?_)
               ·(try simp only [N] at hy69);refine hk66 _ ?_;(try simp only [N]);omega
               refine Ok.cond' (fun h24=>?_) (fun h24=>?_)
               ·(try simp only [B] at h24);refine Ok.chk ?_ ?_
                ·(try simp only [B]);omega
                refine Ok.bind (Ok.get ?_) (fun e71 he71=>?_)
                ·(try simp only [N]);omega
                have he71w:=wt_at he71;(try simp only [N] at he71w);refine Ok.cond' (fun h25=>?_) (fun h25=>?_)
                ·(try simp only [B] at h25);refine Ok.some' ?_;(try simp only [N]);omega
                ·(try simp only [B] at h25);refine Ok.chk ?_ ?_
                 ·(try simp only [B]);omega
                 refine Ok.bind (Ok.get ?_) (fun e72 he72=>?_)
                 ·(try simp only [N]);omega
                 have he72w:=wt_at he72;(try simp only [N] at he72w);have hie72:=idAt_get he72;(try simp only [N] at hie72);have hve72:=wtAt_get he72;(try simp only [N] at hve72);refine Ok.bind (spec_Hang_t ?_) (fun r73 hr73=>?_)
                 ·(try simp only [N]);omega
                 (try simp only [N] at hr73);refine Ok.bind (spec_l26Client_t ?_ ?_ ?_ ?_ ?_ ?_ ?_ ?_) (fun r74 hr74=>?_)
                 ·(try simp only [N]);omega
                 ·(try simp only [N]);omega
                 ·(try simp only [N]);omega
                 ·(try simp only [N]);omega
                 ·(try simp only [N]);omega
                 ·(try simp only [N]);omega
                 ·(try simp only [N]);omega
                 ·(try simp only [N]);omega
                 (try simp only [N] at hr74);refine hk70 _ ?_;(try simp only [N]);omega
               ·(try simp only [B] at h24);refine Ok.join (fun y75:G.World=>wt y75≤wt a0+5100000∧wt y75.Clients+wt y75.S≤wt a0.Clients+wt a0.S+61000∧TW y75) (fun y75 hy75=>?_) (fun k76 hk76=>?_)
                ·(try simp only [N] at hy75);refine hk70 _ ?_;(try simp only [N]);omega
                refine Ok.cond' (fun h26=>?_) (fun h26=>?_)
                ·(try simp only [B] at h26);refine Ok.bind (spec_ServerClose_t ?_) (fun r77 hr77=>?_)
                 ·(try simp only [N]);omega
                 (try simp only [N] at hr77);refine Ok.cond' (fun h27=>?_) (fun h27=>?_)
                 ·(try simp only [B] at h27);refine Ok.some' ?_;(try simp only [N]);omega
                 ·(try simp only [B] at h27);refine Ok.bind (spec_l26See_t ?_ ?_ ?_ ?_) (fun r78 hr78=>?_)
                  ·(try simp only [N]);omega
                  ·(try simp only [N]);omega
                  ·(try simp only [N]);omega
                  ·(try simp only [N]);omega
                  (try simp only [N] at hr78);refine hk76 _ ?_;(try simp only [N]);omega
                ·(try simp only [B] at h26);refine Ok.cond' (fun h28=>?_) (fun h28=>?_)
                 ·(try simp only [B] at h28);refine Ok.join (fun y79:Bool × G.World=>wt y79.2≤wt a0+5100000∧wt y79.2.Clients+wt y79.2.S≤wt a0.Clients+wt a0.S+61000∧TW y79.2) (fun y79 hy79=>?_) (fun k80 hk80=>?_)
                  ·(try simp only [N] at hy79);refine Ok.some' ?_;(try simp only [N]);omega
                  refine Ok.chk ?_ ?_
                  ·(try simp only [B]);omega
                  refine Ok.bind (Ok.get ?_) (fun e81 he81=>?_)
                  ·(try simp only [N]);omega
                  have he81w:=wt_at he81;(try simp only [N] at he81w);refine Ok.cond' (fun h29=>?_) (fun h29=>?_)
                  ·(try simp only [B] at h29);refine Ok.chk ?_ ?_
                   ·(try simp only [B]);omega
                   refine Ok.bind (Ok.get ?_) (fun e82 he82=>?_)
                   ·(try simp only [N]);omega
                   have he82w:=wt_at he82;(try simp only [N] at he82w);have hie82:=idAt_get he82;(try simp only [N] at hie82);have hve82:=wtAt_get he82;(try simp only [N] at hve82);refine Ok.bind (spec_l26Show_t ?_ ?_ ?_) (fun r83 hr83=>?_)
                   ·(try simp only [N]);omega
                   ·(try simp only [N]);omega
                   ·(try simp only [N]);omega
                   (try simp only [N] at hr83);refine hk80 _ ?_;(try simp only [N]);omega
                  ·(try simp only [B] at h29);refine hk80 _ ?_;(try simp only [N]);omega
                 ·(try simp only [B] at h28);refine Ok.cond' (fun h30=>?_) (fun h30=>?_)
                  ·(try simp only [B] at h30);refine Ok.join (fun y84:Bool × G.World=>wt y84.2≤wt a0+5100000∧wt y84.2.Clients+wt y84.2.S≤wt a0.Clients+wt a0.S+61000∧TW y84.2) (fun y84 hy84=>?_) (fun k85 hk85=>?_)
                   ·(try simp only [N] at hy84);refine Ok.some' ?_;(try simp only [N]);omega
                   refine Ok.cond' (fun h31=>?_) (fun h31=>?_)
                   ·(try simp only [B] at h31);refine Ok.bind (Ok.idx ?_ ?_) (fun e86 he86=>?_)
                    ·(try simp only [N]);omega
                    ·(try simp only [N]);omega
                    have he86w:=wt_at he86;(try simp only [N] at he86w);refine Ok.cond' (fun h32=>?_) (fun h32=>?_)
                    ·(try simp only [B] at h32);refine Ok.bind (Ok.idx ?_ ?_) (fun e87 he87=>?_)
                     ·(try simp only [N]);omega
                     ·(try simp only [N]);omega
                     have he87w:=wt_at he87;(try simp only [N] at he87w);refine Ok.bind (spec_l26Show_t ?_ ?_ ?_) (fun r88 hr88=>?_)
                     ·(try simp only [N]);omega
                     ·(try simp only [N]);omega
                     ·(try simp only [N]);omega
                     (try simp only [N] at hr88);refine hk85 _ ?_;(try simp only [N]);omega
                    ·(try simp only [B] at h32);refine hk85 _ ?_;(try simp only [N]);omega
                   ·(try simp only [B] at h31);refine hk85 _ ?_;(try simp only [N]);omega
                  ·(try simp only [B] at h30);refine Ok.join (fun y89:G.World=>wt y89≤wt a0+5100000∧wt y89.Clients+wt y89.S≤wt a0.Clients+wt a0.S+61000∧TW y89) (fun y89 hy89=>?_) (fun k90 hk90=>?_)
                   ·(try simp only [N] at hy89);refine hk76 _ ?_;(try simp only [N]);omega
                   refine Ok.cond' (fun h33=>?_) (fun h33=>?_)
                   ·(try simp only [B] at h33);refine Ok.join (fun y91:G.World=>wt y91≤wt a0+5100000∧wt y91.Clients+wt y91.S≤wt a0.Clients+wt a0.S+61000∧TW y91) (fun y91 hy91=>?_) (fun k92 hk92=>?_)
                    ·(try simp only [N] at hy91);refine hk90 _ ?_;(try simp only [N]);omega
                    refine Ok.cond' (fun h34=>?_) (fun h34=>?_)
                    ·(try simp only [B] at h34);refine Ok.bind (spec_Wind_t ?_) (fun r93 hr93=>?_)
                     ·(try simp only [N]);omega
                     (try simp only [N] at hr93);refine hk92 _ ?_;(try simp only [N]);omega
                    ·(try simp only [B] at h34);refine Ok.bind (spec_Wind_t ?_) (fun r94 hr94=>?_)
                     ·(try simp only [N]);omega
                     (try simp only [N] at hr94);refine hk92 _ ?_;(try simp only [N]);omega
                   ·(try simp only [B] at h33);refine hk90 _ ?_;(try simp only [N]);omega
  refine Ok.cond' (fun h35=>?_) (fun h35=>?_)
  ·refine Ok.cond' (fun h36=>?_) (fun h36=>?_)
   ·(try simp only [B] at h36);refine Ok.some' ?_;(try simp only [N]);omega
   ·(try simp only [B] at h36);have hd3:=irem_lo (a:=a1.I) (n:=(a0.Seen.length:Int)) (by omega) (by omega);refine Ok.chkn ?_ ?_
    ·(try simp only [B]);omega
    refine Ok.chk ?_ ?_
    ·(try simp only [B]);omega
    refine Ok.bind (Ok.get ?_) (fun e5 he5=>?_)
    ·(try simp only [N]);omega
    have he5w:=wt_at he5;(try simp only [N] at he5w);refine hk4 _ ?_;(try simp only [N]);omega
  ·refine hk4 _ ?_;(try simp only [N]);omega
 refine Ok.cond' (fun h37=>?_) (fun h37=>?_)
 ·exact hk2 _ trivial
 ·exact hk2 _ trivial
theorem spec_l26New_t {a0:G.Cur} (ha:CurOk a0):Ok (spec_l26New.raw a0) fun r=>CurOk r.2∧wt r.1≤4000∧TW r.1:=by
 (try simp only [N] at ha);have hL:=LIM_is
 unfold spec_l26New.raw
 refine Ok.bind (spec_l1Bytes_t ?_ ?_) (fun r1 hr1=>?_)
 ·(try simp only [N]);omega
 ·(try simp only [N]);omega
 (try simp only [N] at hr1);refine Ok.bind (spec_l1Bytes_t ?_ ?_) (fun r2 hr2=>?_)
 ·(try simp only [N]);omega
 ·(try simp only [N]);omega
 (try simp only [N] at hr2);refine Ok.bind (spec_l1Bytes_t ?_ ?_) (fun r3 hr3=>?_)
 ·(try simp only [N]);omega
 ·(try simp only [N]);omega
 (try simp only [N] at hr3);refine Ok.bind (spec_l1Below_t ?_) (fun r4 hr4=>?_)
 ·(try simp only [N]);omega
 (try simp only [N] at hr4);refine Ok.bind (worldNewO_t ?_ ?_) (fun r5 hr5=>?_)
 ·(try have:=iadd_eq (a:=1) (b:=r4.1) (by omega) (by omega));(try simp only [N]);omega
 ·(try have:=iadd_eq (a:=1) (b:=r4.1) (by omega) (by omega));(try simp only [N]);omega
 (try simp only [N] at hr5);refine Ok.some' ?_;(try simp only [N]);omega
theorem spec_l26Events_t {a0:G.Cur} {a1:Int} {a2:Bool} (ha:CurOk a0) (hb:a1≤40):Ok (spec_l26Events.raw a0 a1 a2) fun r=>CurOk r.2.2.2∧wt r.2.2.1≤400000000∧TW r.2.2.1:=by
 (try simp only [N] at ha);(try simp only [N] at hb);have hL:=LIM_is
 unfold spec_l26Events.raw
 refine Ok.bind (spec_l26New_t ?_) (fun r1 hr1=>?_)
 ·(try simp only [N]);omega
 (try simp only [N] at hr1);refine Ok.same (pt_some ?_) ?_
 ·(try simp only [N]);omega
 refine Ok.bind (spec_l1Below_t ?_) (fun r3 hr3=>?_)
 ·(try simp only [N]);omega
 (try simp only [N] at hr3);refine Ok.join (fun y4:(List G.Event) × G.Cur × Int × G.World=>CurOk y4.2.1∧wt y4.2.2.2≤400000000∧TW y4.2.2.2) (fun y4 hy4=>?_) (fun k5 hk5=>?_)
 ·(try simp only [N] at hy4);refine Ok.some' ?_;(try simp only [N]);omega
 refine Ok.loop (fun x6:(List G.Event) × Int × G.Cur × Int × G.World=>0≤x6.2.1∧x6.2.1≤60∧CurOk x6.2.2.1∧wt x6.1+3001 *x6.2.1≤200000∧TW x6.2.2.2.2∧wt x6.2.2.2.2+5100000 *x6.2.1≤320000000∧wt x6.2.2.2.2.Clients+wt x6.2.2.2.2.S+61000 *x6.2.1≤3700000) (fun x6:(List G.Event) × Int × G.Cur × Int × G.World=>x6.2.1.toNat) (fun x6 hx6 k7 hk7=>?_) ?_ ?_
 ·(try simp only [N] at hx6);refine Ok.cond' (fun h1=>?_) (fun h1=>?_)
  ·(try simp only [B] at h1);refine Ok.bind (spec_l26Pick_t ?_ ?_ ?_) (fun r8 hr8=>?_)
   ·(try simp only [N]);omega
   ·(try simp only [N]);omega
   ·(try simp only [N]);omega
   (try simp only [N] at hr8);refine Ok.guard ?_ ?_
   ·(try simp only [N]);omega
   refine Ok.same (pt_some ?_) ?_
   ·(try simp only [N]);omega
   refine Ok.join (fun y10:Bool × G.World=>wt y10.2≤wt x6.2.2.2.2+5100000∧wt y10.2.Clients+wt y10.2.S≤wt x6.2.2.2.2.Clients+wt x6.2.2.2.2.S+61000∧TW y10.2) (fun y10 hy10=>?_) (fun k11 hk11=>?_)
   ·(try simp only [N] at hy10);refine Ok.join (fun y13:G.World=>wt y13≤wt x6.2.2.2.2+5100000∧wt y13.Clients+wt y13.S≤wt x6.2.2.2.2.Clients+wt x6.2.2.2.2.S+61000∧TW y13) (fun y13 hy13=>?_) (fun k14 hk14=>?_)
    ·(try simp only [N] at hy13);refine hk7 _ ?_ ?_
     ·(try have:=isub_eq (a:=x6.2.1) (b:=1) (by omega) (by omega));(try simp only [N]);omega
     ·(try have:=isub_eq (a:=x6.2.1) (b:=1) (by omega) (by omega));(try simp only);omega
    refine Ok.cond' (fun h2=>?_) (fun h2=>?_)
    ·refine hk14 _ ?_;(try simp only [N]);omega
    ·refine hk14 _ ?_;(try simp only [N]);omega
   refine Ok.cond' (fun h3=>?_) (fun h3=>?_)
   ·(try simp only [B] at h3);refine Ok.cond' (fun h4=>?_) (fun h4=>?_)
    ·(try simp only [B] at h4);have f5:=eventOk_f h4;(try simp only [N] at f5);refine Ok.bind (spec_l26Do_t ?_ ?_ ?_ ?_ ?_) (fun r12 hr12=>?_)
     ·(try simp only [N]);omega
     ·(try simp only [N]);omega
     ·(try simp only [N]);omega
     ·(try simp only [N]);omega
     ·(try simp only [N]);omega
     (try simp only [N] at hr12);refine hk11 _ ?_;(try simp only [N]);omega
    ·(try simp only [B] at h4);refine hk11 _ ?_;(try simp only [N]);omega
   ·(try simp only [B] at h3);refine hk11 _ ?_;(try simp only [N]);omega
  ·(try simp only [B] at h1);refine hk5 _ ?_;(try simp only [N]);omega
 ·(try have:=iadd_eq (a:=4) (b:=r3.1) (by omega) (by omega));(try simp only [N]);omega
 ·(try have:=iadd_eq (a:=4) (b:=r3.1) (by omega) (by omega));(try simp only);omega
theorem spec_l26World_t {a0:G.Cur} {a1:Int} (ha:CurOk a0) (hb:a1≤40):Ok (spec_l26World.raw a0 a1) fun r=>CurOk r.2∧wt r.1≤400000000∧TW r.1:=by
 (try simp only [N] at ha);(try simp only [N] at hb);have hL:=LIM_is
 unfold spec_l26World.raw
 refine Ok.bind (spec_l1Once_t ?_) (fun r1 hr1=>?_)
 ·(try simp only [N]);omega
 (try simp only [N] at hr1);refine Ok.bind (spec_l26Events_t ?_ ?_) (fun r2 hr2=>?_)
 ·(try simp only [N]);omega
 ·(try simp only [N]);omega
 (try simp only [N] at hr2);refine Ok.some' ?_;(try simp only [N]);omega
end Go.D
namespace Go.D
end Go.D

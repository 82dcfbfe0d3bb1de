/-
  The reference's machine comes to an end, and what it gives is small.
-/
import Derived.Test.YtinolgjddfjojaaGreatN8
namespace Go.D
theorem spec_HeadOf_t {a0:Int} {a1:List UInt8} {a2:Int} {a3:Int} (ha:wt a1≤1000000000):Ok (spec_HeadOf.raw a0 a1 a2 a3) fun r=>r.length≤40∧(0<r.length→a1.length=12):=by
 (try simp only [N] at ha);have hL:=LIM_is
 unfold spec_HeadOf.raw
 refine Ok.join (fun y1:Bool=>y1=false→a1.length=12) (fun y1 hy1=>?_) (fun k2 hk2=>?_)
 ·refine Ok.cond' (fun h1=>?_) (fun h1=>?_)
  ·refine Ok.some' ?_;(try simp only [N]);omega
  ·replace hy1:=hy1 h1;(try simp only [N] at hy1);refine Ok.guard ?_ ?_
   ·(try simp only [N]);omega
   refine Ok.bind (putNO_t ?_) (fun r3 hr3=>?_)
   ·(try simp only [N]);omega
   (try simp only [N] at hr3);refine Ok.bind (putNO_t ?_) (fun r4 hr4=>?_)
   ·(try simp only [N]);omega
   (try simp only [N] at hr4);refine Ok.some' ?_;(try simp only [N]);omega
 refine Ok.cond' (fun h2=>?_) (fun h2=>?_)
 ·exact hk2 _ fun h=>nomatch h
 ·(try simp only [B] at h2);refine Ok.cond' (fun h3=>?_) (fun h3=>?_)
  ·exact hk2 _ fun h=>nomatch h
  ·(try simp only [B] at h3);refine Ok.cond' (fun h4=>?_) (fun h4=>?_)
   ·exact hk2 _ fun h=>nomatch h
   ·(try simp only [B] at h4);refine hk2 _ fun q5=>?_;(try simp only [B] at q5);(try simp only [N]);omega
theorem spec_BlockOf_t {a0:List UInt8} {a1:List UInt8} {a2:Int} (ha:wt a1≤1000000000):Ok (spec_BlockOf.raw a0 a1 a2) fun r=>r.length≤32∧(0≤a2∧a2≤6∧a1.length≤100∧a0.length≤1048576→r.length=32):=by
 try simp only [N] at ha
 have hL:=LIM_is
 unfold spec_BlockOf.raw
 refine Ok.join (fun y1:Bool=>(y1=true∧¬ (0≤a2∧a2≤6∧a1.length≤100))∨(y1=false∧a1.length≤100)) (fun y1 hy1=>?_) (fun k2 hk2=>?_)
 · rcases hy1 with ⟨rfl,h⟩ | ⟨rfl,h⟩
   · exact Ok.some' ⟨Nat.zero_le _,fun k=>absurd ⟨k.1,k.2.1,k.2.2.1⟩ h⟩
   · refine Ok.guard ?_ ?_
     · simp only [N];omega
     refine Ok.bind (putNO_t ?_) (fun r3 hr3=>?_)
     · simp only [N];omega
     simp only [N] at hr3
     exact Ok.some' ⟨hmac_le _ _,fun k=>hmac_len k.2.2.2 (by omega)⟩
 refine Ok.cond' (fun h2=>?_) (fun h2=>?_)
 · simp only [B] at h2
   exact hk2 _ (.inl ⟨rfl,fun k=>h2 ⟨k.1,k.2.1⟩⟩)
 · simp only [B] at h2
   refine hk2 _ ?_
   by_cases h:(a1.length:Int)>100
   · exact .inl ⟨decide_eq_true h,fun k=>by omega⟩
   · exact .inr ⟨decide_eq_false h,by omega⟩
theorem spec_Stream_t {a0:List UInt8} {a1:List UInt8} {a2:Int} (ha:wt a1≤1000000000):Ok (spec_Stream.raw a0 a1 a2) fun r=>r.length≤200∧(0≤a2∧a2≤200∧a1.length≤100∧a0.length≤1048576→(r.length:Int)=a2):=by
 have hL:=LIM_is
 unfold spec_Stream.raw
 refine Ok.join (fun y1:Bool=>(y1=true∧¬ (0≤a2∧a2≤200∧a1.length≤100∧a0.length≤1048576))∨(y1=false∧(0≤a2∧a2≤200∧a1.length≤100∧a0.length≤1048576))) (fun y1 hy1=>?_) (fun k2 hk2=>?_)
 · rcases hy1 with ⟨rfl,h⟩ | ⟨rfl,h⟩
   · exact Ok.some' ⟨Nat.zero_le _,fun k=>absurd k h⟩
   · rw [cond_false]
     refine Ok.join (fun y3:List UInt8=>a2≤(y3.length:Int)∧y3.length≤1000) (fun y3 hy3=>?_) (fun k4 hk4=>?_)
     · refine Ok.chk ?_ ?_
       · simp only [B];omega
       refine Ok.guard ?_ ?_
       · simp only [N];omega
       refine Ok.some' ?_
       simp only [N];omega
     refine Ok.loop (fun x5:(List UInt8) × Int=>0≤x5.2∧x5.2≤7∧(x5.1.length:Int)=32 *x5.2) (fun x5=>(7 - x5.2).toNat) (fun x5 hx5 k6 hk6=>?_) ?_ ?_
     · refine Ok.cond' (fun h1=>?_) (fun h1=>?_)
       · simp only [B] at h1
         refine Ok.bind (spec_BlockOf_t ha) (fun r7 hr7=>?_)
         have h7:r7.length=32:=hr7.2 (by omega)
         refine Ok.guard ?_ ?_
         · simp only [N];omega
         have:=iadd_eq (a:=x5.2) (b:=1) (by omega) (by omega)
         refine hk6 _ ?_ ?_
         · simp only [N];omega
         · simp only;omega
       · simp only [B] at h1
         refine hk4 _ ?_
         omega
     · simp only [N];omega
     · simp only;omega
 refine Ok.cond' (fun h2=>?_) (fun h2=>?_)
 · simp only [B] at h2
   exact hk2 _ (.inl ⟨rfl,fun k=>h2 ⟨k.1,k.2.1⟩⟩)
 · simp only [B] at h2
   refine Ok.cond' (fun h3=>?_) (fun h3=>?_)
   · simp only [B] at h3
     exact hk2 _ (.inl ⟨rfl,fun k=>by omega⟩)
   · simp only [B] at h3
     refine hk2 _ ?_
     by_cases h:(a0.length:Int)>1048576
     · exact .inl ⟨decide_eq_true h,fun k=>by omega⟩
     · exact .inr ⟨decide_eq_false h,by omega⟩
theorem spec_Mix_t {a0:List UInt8} {a1:List UInt8} {a2:List UInt8} (ha:wt a1≤1000000000) (hb:wt a2≤1000000000):Ok (spec_Mix.raw a0 a1 a2) fun r=>r.length≤200:=by
 (try simp only [N] at ha);(try simp only [N] at hb);have hL:=LIM_is
 unfold spec_Mix.raw
 refine Ok.join (fun y1:Bool=>y1=false→a2.length≤200∧a1.length≤100∧a0.length≤1048576) (fun y1 hy1=>?_) (fun k2 hk2=>?_)
 ·refine Ok.cond' (fun h1=>?_) (fun h1=>?_)
  ·refine Ok.some' ?_;(try simp only [N]);omega
  ·replace hy1:=hy1 h1;(try simp only [N] at hy1);refine Ok.bind (spec_Stream_t ?_) (fun r3 hr3=>?_)
   ·(try simp only [N]);omega
   (try simp only [N] at hr3);refine Ok.join (fun y4:(List UInt8)=>y4.length≤200) (fun y4 hy4=>?_) (fun k5 hk5=>?_)
   ·(try simp only [N] at hy4);refine Ok.some' ?_;(try simp only [N]);omega
   refine Ok.loop (fun x6:(List UInt8) × Int=>0≤x6.2∧x6.2≤(a2.length:Int)∧(x6.1.length:Int)=x6.2) (fun x6:(List UInt8) × Int=>((a2.length:Int) - x6.2).toNat) (fun x6 hx6 k7 hk7=>?_) ?_ ?_
   ·(try simp only [N] at hx6);refine Ok.cond' (fun h2=>?_) (fun h2=>?_)
    ·(try simp only [B] at h2);refine Ok.bind (Ok.idx ?_ ?_) (fun e8 he8=>?_)
     ·(try simp only [N]);omega
     ·(try simp only [N]);omega
     have he8w:=wt_at he8;(try simp only [N] at he8w);refine Ok.chk ?_ ?_
     ·(try simp only [B]);omega
     refine Ok.bind (Ok.get ?_) (fun e9 he9=>?_)
     ·(try simp only [N]);omega
     have he9w:=wt_at he9;(try simp only [N] at he9w);refine Ok.guard ?_ ?_
     ·(try simp only [N]);omega
     refine hk7 _ ?_ ?_
     ·(try have:=iadd_eq (a:=x6.2) (b:=1) (by omega) (by omega));(try simp only [N]);omega
     ·(try have:=iadd_eq (a:=x6.2) (b:=1) (by omega) (by omega));(try simp only);omega
    ·(try simp only [B] at h2);refine hk5 _ ?_;(try simp only [N]);omega
   ·(try simp only [N]);omega
   ·(try simp only);omega
 refine Ok.cond' (fun h3=>?_) (fun h3=>?_)
 ·exact hk2 _ fun h=>nomatch h
 ·(try simp only [B] at h3);refine Ok.cond' (fun h4=>?_) (fun h4=>?_)
  ·exact hk2 _ fun h=>nomatch h
  ·(try simp only [B] at h4);refine hk2 _ fun q5=>?_;(try simp only [B] at q5);(try simp only [N]);omega
theorem spec_TagInput_t {a0:Int} {a1:G.Frame} (ha:wt a1≤1000000000):Ok (spec_TagInput.raw a0 a1) fun r=>r.length≤160:=by
 (try simp only [N] at ha);have hL:=LIM_is
 unfold spec_TagInput.raw
 refine Ok.join (fun y1:Bool=>y1=false→wt a1≤112) (fun y1 hy1=>?_) (fun k2 hk2=>?_)
 ·refine Ok.cond' (fun h1=>?_) (fun h1=>?_)
  ·refine Ok.some' ?_;(try simp only [N]);omega
  ·replace hy1:=hy1 h1;(try simp only [N] at hy1);refine Ok.bind (spec_HeadOf_t ?_) (fun r3 hr3=>?_)
   ·(try simp only [N]);omega
   (try simp only [N] at hr3);refine Ok.guard ?_ ?_
   ·(try simp only [N]);omega
   refine Ok.guard ?_ ?_
   ·(try simp only [N]);omega
   refine Ok.guard ?_ ?_
   ·(try simp only [N]);omega
   refine Ok.some' ?_;(try simp only [N]);omega
 refine Ok.cond' (fun h2=>?_) (fun h2=>?_)
 ·exact hk2 _ fun h=>nomatch h
 ·(try simp only [B] at h2);refine Ok.cond' (fun h3=>?_) (fun h3=>?_)
  ·exact hk2 _ fun h=>nomatch h
  ·(try simp only [B] at h3);have f4:=frameOk_f h3;(try simp only [N] at f4);refine hk2 _ fun q5=>?_;(try simp only [B] at q5);(try simp only [N]);omega
theorem spec_Tag_t {a0:List UInt8} {a1:List UInt8}:Ok (spec_Tag.raw a0 a1) fun r=>r.length≤16:=by
 have hL:=LIM_is;have hm:=hmac_le a0 a1;(try simp only [N] at hm)
 unfold spec_Tag.raw
 refine Ok.cond' (fun h1=>?_) (fun h1=>?_)
 ·(try simp only [B] at h1);refine Ok.some' ?_;(try simp only [N]);omega
 ·(try simp only [B] at h1);refine Ok.chk ?_ ?_
  ·(try simp only [B]);omega
  refine Ok.guard ?_ ?_
  ·(try simp only [N]);omega
  refine Ok.some' ?_;(try simp only [N]);omega
theorem spec_Seal_t {a0:List UInt8} {a1:Int} {a2:List UInt8} {a3:Int} {a4:Int} {a5:Int} {a6:List UInt8} (ha:wt a0≤1000000000) (hb:wt a2≤1000000000) (hc:wt a6≤1000000000):Ok (spec_Seal.raw a0 a1 a2 a3 a4 a5 a6) fun r=>(wt r.1≤300)∧(r.2=true→a2.length=12∧a0.length=32):=by
 (try simp only [N] at ha);(try simp only [N] at hb);(try simp only [N] at hc);have hL:=LIM_is
 unfold spec_Seal.raw
 refine Ok.bind (spec_HeadOf_t ?_) (fun r1 hr1=>?_)
 ·(try simp only [N]);omega
 (try simp only [N] at hr1);refine Ok.join (fun y2:Bool=>y2=false→a2.length=12∧a0.length=32) (fun y2 hy2=>?_) (fun k3 hk3=>?_)
 ·refine Ok.cond' (fun h1=>?_) (fun h1=>?_)
  ·refine Ok.some' ⟨?_,?_⟩
   ·(try simp only [N]);omega
   ·exact fun h=>nomatch h
  ·replace hy2:=hy2 h1;(try simp only [N] at hy2);refine Ok.guard ?_ ?_
   ·(try simp only [N]);omega
   refine Ok.bind (spec_Mix_t ?_ ?_) (fun r4 hr4=>?_)
   ·(try simp only [N]);omega
   ·(try simp only [N]);omega
   (try simp only [N] at hr4);refine Ok.join (fun y5:G.Frame=>wt y5≤280) (fun y5 hy5=>?_) (fun k6 hk6=>?_)
   ·(try simp only [N] at hy5);refine Ok.bind (spec_TagInput_t ?_) (fun r9 hr9=>?_)
    ·(try simp only [N]);omega
    (try simp only [N] at hr9);refine Ok.bind (spec_Tag_t) (fun r10 hr10=>?_);(try simp only [N] at hr10);refine Ok.some' ⟨?_,?_⟩
    ·(try simp only [N]);omega
    ·intro q2;(try simp only at q2);(try simp only [N]);omega
   refine Ok.loop (fun x7:Int × G.Frame=>0≤x7.1∧x7.1≤16∧x7.2.Tag.length=x7.1∧wt x7.2≤212+x7.1) (fun x7:Int × G.Frame=>(16 - x7.1).toNat) (fun x7 hx7 k8 hk8=>?_) ?_ ?_
   ·(try simp only [N] at hx7);refine Ok.cond' (fun h3=>?_) (fun h3=>?_)
    ·(try simp only [B] at h3);refine Ok.guard ?_ ?_
     ·(try simp only [N]);omega
     refine hk8 _ ?_ ?_
     ·(try have:=iadd_eq (a:=x7.1) (b:=1) (by omega) (by omega));(try simp only [N]);omega
     ·(try have:=iadd_eq (a:=x7.1) (b:=1) (by omega) (by omega));(try simp only);omega
    ·(try simp only [B] at h3);refine hk6 _ ?_;(try simp only [N]);omega
   ·(try simp only [N]);omega
   ·(try simp only);omega
 refine Ok.cond' (fun h4=>?_) (fun h4=>?_)
 ·exact hk3 _ fun h=>nomatch h
 ·(try simp only [B] at h4);refine Ok.cond' (fun h5=>?_) (fun h5=>?_)
  ·exact hk3 _ fun h=>nomatch h
  ·(try simp only [B] at h5);refine Ok.cond' (fun h6=>?_) (fun h6=>?_)
   ·exact hk3 _ fun h=>nomatch h
   ·(try simp only [B] at h6);refine hk3 _ fun q7=>?_;(try simp only [B] at q7);(try simp only [N]);omega
theorem spec_Forge_t {a0:List UInt8} {a1:Int} {a2:Int} {a3:List UInt8} {a4:Int} {a5:Int} {a6:Int} {a7:List UInt8} (ha:wt a0≤1000000000) (hb:wt a3≤1000000000) (hc:wt a7≤1000000000):Ok (spec_Forge.raw a0 a1 a2 a3 a4 a5 a6 a7) fun r=>wt r≤1000:=by
 (try simp only [N] at ha);(try simp only [N] at hb);(try simp only [N] at hc);have hL:=LIM_is
 unfold spec_Forge.raw
 refine Ok.bind (spec_Seal_t ?_ ?_ ?_) (fun r1 hr1=>?_)
 ·(try simp only [N]);omega
 ·(try simp only [N]);omega
 ·(try simp only [N]);omega
 obtain ⟨hr1,hr1i⟩:=hr1;(try simp only [N] at hr1);refine Ok.join (fun y2:Bool=>y2=false→a3.length=12) (fun y2 hy2=>?_) (fun k3 hk3=>?_)
 ·refine Ok.cond' (fun h1=>?_) (fun h1=>?_)
  ·refine Ok.some' ?_;(try simp only [N]);omega
  ·replace hy2:=hy2 h1;(try simp only [N] at hy2);refine Ok.guard ?_ ?_
   ·(try simp only [N]);omega
   refine Ok.bind (putNO_t ?_) (fun r4 hr4=>?_)
   ·(try simp only [N]);omega
   (try simp only [N] at hr4);refine Ok.bind (putNO_t ?_) (fun r5 hr5=>?_)
   ·(try simp only [N]);omega
   (try simp only [N] at hr5);refine Ok.bind (spec_TagInput_t ?_) (fun r6 hr6=>?_)
   ·(try simp only [N]);omega
   (try simp only [N] at hr6);refine Ok.guard ?_ ?_
   ·(try simp only [N]);omega
   refine Ok.some' ?_;(try simp only [N]);omega
 refine Ok.cond' (fun h2=>?_) (fun h2=>?_)
 ·exact hk3 _ fun h=>nomatch h
 ·(try simp only [B] at h2);replace hr1i:=hr1i h2;(try simp only [N] at hr1i);refine hk3 _ fun q3=>?_;(try simp only [B] at q3);(try simp only [N]);omega
theorem spec_PutFrame_t {a0:G.Frame} (ha:wt a0≤1000000000):Ok (spec_PutFrame.raw a0) fun r=>r.length≤200:=by
 (try simp only [N] at ha);have hL:=LIM_is
 unfold spec_PutFrame.raw
 refine Ok.cond' (fun h1=>?_) (fun h1=>?_)
 ·(try simp only [B] at h1);refine Ok.some' ?_;(try simp only [N]);omega
 ·(try simp only [B] at h1);have f2:=frameOk_f h1;(try simp only [N] at f2);refine Ok.join (fun y1:(List UInt8)=>y1.length≤200) (fun y1 hy1=>?_) (fun k2 hk2=>?_)
  ·(try simp only [N] at hy1);refine Ok.some' ?_;(try simp only [N]);omega
  refine Ok.cond' (fun h3=>?_) (fun h3=>?_)
  ·(try simp only [B] at h3);refine Ok.guard ?_ ?_
   ·(try simp only [N]);omega
   refine Ok.guard ?_ ?_
   ·(try simp only [N]);omega
   refine Ok.join (fun y4:(List UInt8)=>y4.length≤200) (fun y4 hy4=>?_) (fun k5 hk5=>?_)
   ·(try simp only [N] at hy4);refine hk2 _ ?_;(try simp only [N]);omega
   refine Ok.loop (fun x6:(List UInt8) × Int=>0≤x6.2∧x6.2≤20∧x6.1.length≤140+x6.2) (fun x6:(List UInt8) × Int=>(20 - x6.2).toNat) (fun x6 hx6 k7 hk7=>?_) ?_ ?_
   ·(try simp only [N] at hx6);refine Ok.cond' (fun h4=>?_) (fun h4=>?_)
    ·(try simp only [B] at h4);refine Ok.guard ?_ ?_
     ·(try simp only [N]);omega
     refine hk7 _ ?_ ?_
     ·(try have:=iadd_eq (a:=x6.2) (b:=1) (by omega) (by omega));(try simp only [N]);omega
     ·(try have:=iadd_eq (a:=x6.2) (b:=1) (by omega) (by omega));(try simp only);omega
    ·(try simp only [B] at h4);refine hk5 _ ?_;(try simp only [N]);omega
   ·(try simp only [N]);omega
   ·(try simp only);omega
  ·(try simp only [B] at h3);refine Ok.join (fun y8:(List UInt8)=>y8.length≤200) (fun y8 hy8=>?_) (fun k9 hk9=>?_)
   ·(try simp only [N] at hy8);refine hk2 _ ?_;(try simp only [N]);omega
   refine Ok.cond' (fun h5=>?_) (fun h5=>?_)
   ·(try simp only [B] at h5);refine Ok.guard ?_ ?_
    ·(try simp only [N]);omega
    refine Ok.guard ?_ ?_
    ·(try simp only [N]);omega
    refine Ok.bind (putNO_t ?_) (fun r11 hr11=>?_)
    ·(try simp only [N]);omega
    (try simp only [N] at hr11);refine Ok.guard ?_ ?_
    ·(try simp only [N]);omega
    refine hk9 _ ?_;(try simp only [N]);omega
   ·(try simp only [B] at h5);refine Ok.join (fun y12:(List UInt8)=>y12.length≤200) (fun y12 hy12=>?_) (fun k13 hk13=>?_)
    ·(try simp only [N] at hy12);refine hk9 _ ?_;(try simp only [N]);omega
    refine Ok.cond' (fun h6=>?_) (fun h6=>?_)
    ·(try simp only [B] at h6);refine Ok.guard ?_ ?_
     ·(try simp only [N]);omega
     refine Ok.guard ?_ ?_
     ·(try simp only [N]);omega
     refine Ok.guard ?_ ?_
     ·(try simp only [N]);omega
     refine Ok.bind (putNO_t ?_) (fun r15 hr15=>?_)
     ·(try simp only [N]);omega
     (try simp only [N] at hr15);refine Ok.guard ?_ ?_
     ·(try simp only [N]);omega
     refine Ok.guard ?_ ?_
     ·(try simp only [N]);omega
     refine hk13 _ ?_;(try simp only [N]);omega
    ·(try simp only [B] at h6);refine Ok.guard ?_ ?_
     ·(try simp only [N]);omega
     refine Ok.bind (putNO_t ?_) (fun r17 hr17=>?_)
     ·(try simp only [N]);omega
     (try simp only [N] at hr17);refine Ok.bind (putNO_t ?_) (fun r18 hr18=>?_)
     ·(try simp only [N]);omega
     (try simp only [N] at hr18);refine Ok.guard ?_ ?_
     ·(try simp only [N]);omega
     refine Ok.guard ?_ ?_
     ·(try simp only [N]);omega
     refine hk13 _ ?_;(try simp only [N]);omega
theorem spec_WireFrom_t {a0:G.Addr} {a1:G.Addr} {a2:G.Frame} (ha:wt a2≤1000000000):Ok (spec_WireFrom.raw a0 a1 a2) fun r=>wt r≤200:=by
 (try simp only [N] at ha);have hL:=LIM_is
 unfold spec_WireFrom.raw
 refine Ok.bind (spec_PutFrame_t ?_) (fun r1 hr1=>?_)
 ·(try simp only [N]);omega
 (try simp only [N] at hr1);refine Ok.some' ?_;(try simp only [N]);omega
theorem spec_l25Sent_t {a0:G.Client} {a1:List G.Frame} (ha:wt a0≤1000000000) (hb:wt a1≤1000000):Ok (spec_l25Sent.raw a0 a1) fun r=>wt r≤201 *a1.length:=by
 (try simp only [N] at ha);(try simp only [N] at hb);have hL:=LIM_is;have hw:=wt_len a1;(try simp only [N] at hw)
 unfold spec_l25Sent.raw
 refine Ok.join (fun y1:(List G.Wire)=>wt y1≤201 *a1.length) (fun y1 hy1=>?_) (fun k2 hk2=>?_)
 ·(try simp only [N] at hy1);refine Ok.some' ?_;(try simp only [N]);omega
 refine Ok.loop (fun x3:(List G.Wire) × Int=>0≤x3.2∧x3.2≤(a1.length:Int)∧wt x3.1≤201 *x3.2) (fun x3:(List G.Wire) × Int=>((a1.length:Int) - x3.2).toNat) (fun x3 hx3 k4 hk4=>?_) ?_ ?_
 ·(try simp only [N] at hx3);refine Ok.cond' (fun h1=>?_) (fun h1=>?_)
  ·(try simp only [B] at h1);refine Ok.bind (Ok.idx ?_ ?_) (fun e6 he6=>?_)
   ·(try simp only [N]);omega
   ·(try simp only [N]);omega
   have he6w:=wt_at he6;(try simp only [N] at he6w);refine Ok.bind (spec_WireFrom_t ?_) (fun r7 hr7=>?_)
   ·(try simp only [N]);omega
   (try simp only [N] at hr7);refine Ok.guard ?_ ?_
   ·(try simp only [N]);omega
   refine hk4 _ ?_ ?_
   ·(try have:=iadd_eq (a:=x3.2) (b:=1) (by omega) (by omega));(try simp only [N]);omega
   ·(try have:=iadd_eq (a:=x3.2) (b:=1) (by omega) (by omega));(try simp only);omega
  ·(try simp only [B] at h1);refine hk2 _ ?_;(try simp only [N]);omega
 ·(try simp only [N]);omega
 ·(try simp only);omega
theorem spec_l25Outs_t {a0:List G.Out} (ha:wt a0≤1000000):Ok (spec_l25Outs.raw a0) fun r=>wt r≤201 *a0.length:=by
 (try simp only [N] at ha);have hL:=LIM_is;have hw:=wt_len a0;(try simp only [N] at hw)
 unfold spec_l25Outs.raw
 refine Ok.join (fun y1:(List G.Wire)=>wt y1≤201 *a0.length) (fun y1 hy1=>?_) (fun k2 hk2=>?_)
 ·(try simp only [N] at hy1);refine Ok.some' ?_;(try simp only [N]);omega
 refine Ok.loop (fun x3:(List G.Wire) × Int=>0≤x3.2∧x3.2≤(a0.length:Int)∧wt x3.1≤201 *x3.2) (fun x3:(List G.Wire) × Int=>((a0.length:Int) - x3.2).toNat) (fun x3 hx3 k4 hk4=>?_) ?_ ?_
 ·(try simp only [N] at hx3);refine Ok.cond' (fun h1=>?_) (fun h1=>?_)
  ·(try simp only [B] at h1);refine Ok.bind (Ok.idx ?_ ?_) (fun e6 he6=>?_)
   ·(try simp only [N]);omega
   ·(try simp only [N]);omega
   have he6w:=wt_at he6;(try simp only [N] at he6w);refine Ok.bind (Ok.idx ?_ ?_) (fun e7 he7=>?_)
   ·(try simp only [N]);omega
   ·(try simp only [N]);omega
   have he7w:=wt_at he7;(try simp only [N] at he7w);refine Ok.bind (spec_WireFrom_t ?_) (fun r8 hr8=>?_)
   ·(try simp only [N]);omega
   (try simp only [N] at hr8);refine Ok.guard ?_ ?_
   ·(try simp only [N]);omega
   refine hk4 _ ?_ ?_
   ·(try have:=iadd_eq (a:=x3.2) (b:=1) (by omega) (by omega));(try simp only [N]);omega
   ·(try have:=iadd_eq (a:=x3.2) (b:=1) (by omega) (by omega));(try simp only);omega
  ·(try simp only [B] at h1);refine hk2 _ ?_;(try simp only [N]);omega
 ·(try simp only [N]);omega
 ·(try simp only);omega
theorem spec_SizeOf_t {a0:G.Frame} (ha:wt a0≤1000000000):Ok (spec_SizeOf.raw a0) fun r=>True:=by
 (try simp only [N] at ha);have hL:=LIM_is
 unfold spec_SizeOf.raw
 refine Ok.bind (spec_PutFrame_t ?_) (fun r1 hr1=>?_)
 ·(try simp only [N]);omega
 (try simp only [N] at hr1);exact Ok.some' trivial
theorem spec_GetFrame_t {a0:List UInt8} (ha:wt a0≤900000000):Ok (spec_GetFrame.raw a0) fun r=>wt r.1≤400:=by
 (try simp only [N] at ha);have hL:=LIM_is
 unfold spec_GetFrame.raw
 refine Ok.cond' (fun h1=>?_) (fun h1=>?_)
 ·(try simp only [B] at h1);refine Ok.some' ?_;(try simp only [N]);omega
 ·(try simp only [B] at h1);refine Ok.bind (Ok.idx ?_ ?_) (fun e1 he1=>?_)
  ·(try simp only [N]);omega
  ·(try simp only [N]);omega
  have he1w:=wt_at he1;(try simp only [N] at he1w);refine Ok.join (fun y3:G.Frame × G.Frame=>wt y3.2≤a0.length+100) (fun y3 hy3=>?_) (fun k4 hk4=>?_)
  ·(try simp only [N] at hy3);refine Ok.bind (spec_PutFrame_t ?_) (fun r28 hr28=>?_)
   ·(try simp only [N]);omega
   (try simp only [N] at hr28);refine Ok.ble ?_ ?_
   ·(try simp only [N]);omega
   refine Ok.ble ?_ ?_
   ·(try simp only [N]);omega
   refine Ok.cond' (fun h2=>?_) (fun h2=>?_)
   ·(try simp only [B] at h2);refine Ok.some' ?_;(try simp only [N]);omega
   ·(try simp only [B] at h2);have:=congrArg List.length h2;refine Ok.some' ?_;(try simp only [N]);omega
  refine Ok.cond' (fun h3=>?_) (fun h3=>?_)
  ·(try simp only [B] at h3);refine Ok.cond' (fun h4=>?_) (fun h4=>?_)
   ·(try simp only [B] at h4);refine Ok.some' ?_;(try simp only [N]);omega
   ·(try simp only [B] at h4);refine Ok.bind (Ok.idx ?_ ?_) (fun e5 he5=>?_)
    ·(try simp only [N]);omega
    ·(try simp only [N]);omega
    have he5w:=wt_at he5;(try simp only [N] at he5w);refine Ok.chk ?_ ?_
    ·(try simp only [B]);omega
    refine Ok.guard ?_ ?_
    ·(try simp only [N]);omega
    refine hk4 _ ?_;(try simp only [N]);omega
  ·(try simp only [B] at h3);refine Ok.join (fun y8:G.Frame × G.Frame=>wt y8.2≤a0.length+100) (fun y8 hy8=>?_) (fun k9 hk9=>?_)
   ·(try simp only [N] at hy8);refine hk4 _ ?_;(try simp only [N]);omega
   refine Ok.cond' (fun h5=>?_) (fun h5=>?_)
   ·(try simp only [B] at h5);refine Ok.cond' (fun h6=>?_) (fun h6=>?_)
    ·(try simp only [B] at h6);refine Ok.some' ?_;(try simp only [N]);omega
    ·(try simp only [B] at h6);refine Ok.chk ?_ ?_
     ·(try simp only [B]);omega
     refine Ok.guard ?_ ?_
     ·(try simp only [N]);omega
     refine Ok.chk ?_ ?_
     ·(try simp only [B]);omega
     refine Ok.guard ?_ ?_
     ·(try simp only [N]);omega
     refine Ok.bind (getNO_t ?_) (fun r12 hr12=>?_)
     ·(try simp only [N]);omega
     (try simp only [N] at hr12);refine Ok.chk ?_ ?_
     ·(try simp only [B]);omega
     refine Ok.guard ?_ ?_
     ·(try simp only [N]);omega
     refine hk9 _ ?_;(try simp only [N]);omega
   ·(try simp only [B] at h5);refine Ok.join (fun y14:G.Frame × G.Frame=>wt y14.2≤a0.length+100) (fun y14 hy14=>?_) (fun k15 hk15=>?_)
    ·(try simp only [N] at hy14);refine hk9 _ ?_;(try simp only [N]);omega
    refine Ok.cond' (fun h7=>?_) (fun h7=>?_)
    ·(try simp only [B] at h7);refine Ok.cond' (fun h8=>?_) (fun h8=>?_)
     ·(try simp only [B] at h8);refine Ok.some' ?_;(try simp only [N]);omega
     ·(try simp only [B] at h8);refine Ok.bind (Ok.idx ?_ ?_) (fun e16 he16=>?_)
      ·(try simp only [N]);omega
      ·(try simp only [N]);omega
      have he16w:=wt_at he16;(try simp only [N] at he16w);refine Ok.chk ?_ ?_
      ·(try simp only [B]);omega
      refine Ok.guard ?_ ?_
      ·(try simp only [N]);omega
      refine Ok.chk ?_ ?_
      ·(try simp only [B]);omega
      refine Ok.guard ?_ ?_
      ·(try simp only [N]);omega
      refine Ok.bind (getNO_t ?_) (fun r20 hr20=>?_)
      ·(try simp only [N]);omega
      (try simp only [N] at hr20);refine Ok.chk ?_ ?_
      ·(try simp only [B]);omega
      refine Ok.guard ?_ ?_
      ·(try simp only [N]);omega
      refine Ok.chk ?_ ?_
      ·(try simp only [B]);omega
      refine Ok.guard ?_ ?_
      ·(try simp only [N]);omega
      refine hk15 _ ?_;(try simp only [N]);omega
    ·(try simp only [B] at h7);refine Ok.cond' (fun h9=>?_) (fun h9=>?_)
     ·(try simp only [B] at h9);refine Ok.some' ?_;(try simp only [N]);omega
     ·(try simp only [B] at h9);refine Ok.chk ?_ ?_
      ·(try simp only [B]);omega
      refine Ok.guard ?_ ?_
      ·(try simp only [N]);omega
      refine Ok.bind (getNO_t ?_) (fun r24 hr24=>?_)
      ·(try simp only [N]);omega
      (try simp only [N] at hr24);refine Ok.bind (getNO_t ?_) (fun r25 hr25=>?_)
      ·(try simp only [N]);omega
      (try simp only [N] at hr25);refine Ok.chk ?_ ?_
      ·(try simp only [B]);omega
      refine Ok.guard ?_ ?_
      ·(try simp only [N]);omega
      refine Ok.chk ?_ ?_
      ·(try simp only [B]);omega
      refine Ok.guard ?_ ?_
      ·(try simp only [N]);omega
      refine hk15 _ ?_;(try simp only [N]);omega
end Go.D
namespace Go.D
theorem spec_l8Least_t {a0:Int}:Ok (spec_l8Least.raw a0) fun r=>True:=by
 have hL:=LIM_is
 unfold spec_l8Least.raw
 refine Ok.cond' (fun h1=>?_) (fun h1=>?_)
 ·(try simp only [B] at h1);exact Ok.some' trivial
 ·(try simp only [B] at h1);exact Ok.some' trivial
theorem spec_WinMay_t {a0:G.Win} {a1:Int}:Ok (spec_WinMay.raw a0 a1) fun r=>(True)∧(r=true→a0.Bits.length=32∧0≤a1∧a1≤281474976710655∧ -1≤a0.Top∧a0.Top≤281474976710655):=by
 have hL:=LIM_is
 unfold spec_WinMay.raw
 refine Ok.join (fun y1:Bool=>y1=false→a0.Bits.length=32∧0≤a1∧a1≤281474976710655∧ -1≤a0.Top∧a0.Top≤281474976710655) (fun y1 hy1=>?_) (fun k2 hk2=>?_)
 ·refine Ok.cond' (fun h1=>?_) (fun h1=>?_)
  ·refine Ok.some' ⟨?_,?_⟩
   ·trivial
   ·exact fun h=>nomatch h
  ·replace hy1:=hy1 h1;(try simp only [N] at hy1);refine Ok.join (fun y3:Bool=>True) (fun y3 hy3=>?_) (fun k4 hk4=>?_)
   ·refine Ok.some' ⟨?_,?_⟩
    ·trivial
    ·intro q2;(try simp only [B] at q2);(try simp only [N]);omega
   refine Ok.cond' (fun h3=>?_) (fun h3=>?_)
   ·exact hk4 _ trivial
   ·(try simp only [B] at h3);refine Ok.bind (spec_l8Least_t) (fun r5 hr5=>?_);refine Ok.cond' (fun h4=>?_) (fun h4=>?_)
    ·(try simp only [B] at h4);refine Ok.bind (bitO_t ?_) (fun r6 hr6=>?_)
     ·(try simp only [N]);omega
     (try simp only [N] at hr6);exact hk4 _ trivial
    ·exact hk4 _ trivial
 refine Ok.cond' (fun h5=>?_) (fun h5=>?_)
 ·exact hk2 _ fun h=>nomatch h
 ·(try simp only [B] at h5);have f6:=winOk_f h5;(try simp only [N] at f6);refine hk2 _ fun q7=>?_;(try simp only [B] at q7);(try simp only [N]);omega
theorem bit_i {n:Int} (h0:0≤n):irem .i64 n 1024=n % 1024:=irem_eq h0
theorem bit_q {n:Int} (h0:0≤n) (h1:n<1024):iquo .i64 n 32=n / 32:=by
 unfold iquo
 rw [Int.tdiv_eq_ediv_of_nonneg h0,wrap_i64 (by omega) (by omega)]
theorem spec_WinAdd_t {a0:G.Win} {a1:Int} (ha:wt a0≤1000000000):Ok (spec_WinAdd.raw a0 a1) fun r=>wt r.1≤wt a0∧wt a0≤wt r.1:=by
 have hL:=LIM_is
 unfold spec_WinAdd.raw
 simp only [N] at ha
 refine Ok.same (pt_some (p:=wt a0≤LIM) ?_) ?_
 · simp only [N];omega
 refine Ok.bind spec_WinMay_t (fun r2 hr2=>?_)
 refine Ok.cond' (fun h=>Ok.some' ?_) (fun h=>?_)
 · simp only [N];omega
 · simp only [B] at h
   have hm:=hr2.2 h
   have e1:=bit_i hm.2.1
   have e2:=bit_q (n:=a1 % 1024) (by omega) (by omega)
   have e3:=irem_eq (a:=a1 % 1024) (b:=32) (by omega)
   rw [e1,e2,e3]
   refine Ok.join (fun y:G.Win=>y.Bits.length=32) (fun y hy=>?_) (fun k hk=>?_)
   · refine Ok.chk ?_ ?_
     · simp only [B];omega
     refine Ok.bind (Ok.get ?_) (fun e he=>?_)
     · omega
     refine Ok.chkn ?_ ?_
     · simp only [B];omega
     refine Ok.chk ?_ ?_
     · simp only [B];omega
     refine Ok.bind (Ok.get ?_) (fun e' he'=>?_)
     · omega
     refine Ok.join (fun z:G.Win=>z.Bits.length=32) (fun z hz=>?_) (fun k' hk'=>?_)
     · refine Ok.some' ?_
       simp only [N];omega
     · refine Ok.cond' (fun _=>hk' _ ?_) (fun _=>hk' _ ?_)
       · simp only [N];exact hy
       · simp only [N];exact hy
   · refine Ok.loop (fun x:Int × Int × G.Win=>0≤x.2.1∧x.2.1≤281474976710656∧0≤x.1∧x.1≤1024∧x.2.2.Bits.length=32) (fun x=>(1025 - x.1).toNat) (fun x hx k' hk'=>?_) ?_ ?_
     · have f1:=bit_i hx.1
       have f2:=bit_q (n:=x.2.1 % 1024) (by omega) (by omega)
       have f3:=irem_eq (a:=x.2.1 % 1024) (b:=32) (by omega)
       rw [f1,f2,f3]
       refine Ok.join (fun y:Bool=>y=true→x.1<1024∧x.2.1≤a1) (fun y hy=>?_) (fun k2 hk2=>?_)
       · refine Ok.cond' (fun h=>?_) (fun _=>hk _ hx.2.2.2.2)
         have hy:=hy h
         refine Ok.chk ?_ ?_
         · simp only [B];omega
         refine Ok.bind (Ok.get ?_) (fun e he=>?_)
         · omega
         refine Ok.chkn ?_ ?_
         · simp only [B];omega
         refine Ok.chk ?_ ?_
         · simp only [B];omega
         refine Ok.bind (Ok.get ?_) (fun e' he'=>?_)
         · omega
         have g1:=iadd_eq (a:=x.1) (b:=1) (by omega) (by omega)
         have g2:=iadd_eq (a:=x.2.1) (b:=1) (by omega) (by omega)
         refine hk' _ ?_ ?_
         · simp only [N];omega
         · simp only;omega
       · refine Ok.cond' (fun h=>hk2 _ fun q=>?_) (fun _=>hk2 _ fun q=>nomatch q)
         simp only [B] at h q
         omega
     · have g:=iadd_eq (a:=a0.Top) (b:=1) (by omega) (by omega)
       simp only;omega
     · simp only;omega
theorem spec_WinNew_t:Ok (spec_WinNew.raw ) fun r=>wt r≤32∧32≤wt r:=by
 have hL:=LIM_is
 unfold spec_WinNew.raw
 refine Ok.join (fun y1:G.Win=>wt y1≤32∧32≤wt y1) (fun y1 hy1=>?_) (fun k2 hk2=>?_)
 ·(try simp only [N] at hy1);refine Ok.some' ?_;(try simp only [N]);omega
 refine Ok.loop (fun x3:Int × G.Win=>0≤x3.1∧x3.1≤32∧x3.2.Bits.length=x3.1) (fun x3:Int × G.Win=>(32 - x3.1).toNat) (fun x3 hx3 k4 hk4=>?_) ?_ ?_
 ·(try simp only [N] at hx3);refine Ok.cond' (fun h1=>?_) (fun h1=>?_)
  ·(try simp only [B] at h1);refine Ok.guard ?_ ?_
   ·(try simp only [N]);omega
   refine hk4 _ ?_ ?_
   ·(try have:=iadd_eq (a:=x3.1) (b:=1) (by omega) (by omega));(try simp only [N]);omega
   ·(try have:=iadd_eq (a:=x3.1) (b:=1) (by omega) (by omega));(try simp only);omega
  ·(try simp only [B] at h1);refine hk2 _ ?_;(try simp only [N]);omega
 ·(try simp only [N]);omega
 ·(try simp only);omega
theorem spec_EpNew_t {a0:Int} {a1:List UInt8} (ha:wt a1≤1000000000):Ok (spec_EpNew.raw a0 a1) fun r=>wt r≤64:=by
 (try simp only [N] at ha);have hL:=LIM_is
 unfold spec_EpNew.raw
 refine Ok.join (fun y1:Bool=>y1=false→a1.length=32) (fun y1 hy1=>?_) (fun k2 hk2=>?_)
 ·refine Ok.cond' (fun h1=>?_) (fun h1=>?_)
  ·refine Ok.some' ?_;(try simp only [N]);omega
  ·replace hy1:=hy1 h1;(try simp only [N] at hy1);refine Ok.guard ?_ ?_
   ·(try simp only [N]);omega
   refine Ok.bind (spec_WinNew_t) (fun r3 hr3=>?_);(try simp only [N] at hr3);refine Ok.some' ?_;(try simp only [N]);omega
 refine Ok.cond' (fun h2=>?_) (fun h2=>?_)
 ·exact hk2 _ fun h=>nomatch h
 ·(try simp only [B] at h2);refine hk2 _ fun q3=>?_;(try simp only [B] at q3);(try simp only [N]);omega
theorem spec_ChanNew_t {a0:Int} {a1:List UInt8} {a2:List UInt8} (ha:wt a1≤1000000000) (hb:wt a2≤1000000000):Ok (spec_ChanNew.raw a0 a1 a2) fun r=>wt r≤76:=by
 (try simp only [N] at ha);(try simp only [N] at hb);have hL:=LIM_is
 unfold spec_ChanNew.raw
 refine Ok.join (fun y1:Bool=>y1=false→a1.length=12∧a2.length=32) (fun y1 hy1=>?_) (fun k2 hk2=>?_)
 ·refine Ok.cond' (fun h1=>?_) (fun h1=>?_)
  ·refine Ok.some' ?_;(try simp only [N]);omega
  ·replace hy1:=hy1 h1;(try simp only [N] at hy1);refine Ok.guard ?_ ?_
   ·(try simp only [N]);omega
   refine Ok.bind (spec_EpNew_t ?_) (fun r3 hr3=>?_)
   ·(try simp only [N]);omega
   (try simp only [N] at hr3);refine Ok.some' ?_;(try simp only [N]);omega
 refine Ok.cond' (fun h2=>?_) (fun h2=>?_)
 ·exact hk2 _ fun h=>nomatch h
 ·(try simp only [B] at h2);refine Ok.cond' (fun h3=>?_) (fun h3=>?_)
  ·exact hk2 _ fun h=>nomatch h
  ·(try simp only [B] at h3);refine hk2 _ fun q4=>?_;(try simp only [B] at q4);(try simp only [N]);omega
theorem spec_EpSeal_t {a0:G.Ep} {a1:Int} {a2:List UInt8} {a3:Int} {a4:List UInt8} (ha:wt a0≤1000000000) (hb:wt a2≤1000000000) (hc:wt a4≤1000000000):Ok (spec_EpSeal.raw a0 a1 a2 a3 a4) fun r=>wt r.1≤wt a0∧wt r.2.1≤300:=by
 (try simp only [N] at ha);(try simp only [N] at hb);(try simp only [N] at hc);have hL:=LIM_is
 unfold spec_EpSeal.raw
 refine Ok.same (pt_some ?_) ?_
 ·(try simp only [N]);omega
 refine Ok.join (fun y2:Bool=>True) (fun y2 hy2=>?_) (fun k3 hk3=>?_)
 ·refine Ok.cond' (fun h1=>?_) (fun h1=>?_)
  ·refine Ok.some' ?_;(try simp only [N]);omega
  ·refine Ok.join (fun y5:Bool=>True) (fun y5 hy5=>?_) (fun k6 hk6=>?_)
   ·refine Ok.cond' (fun h2=>?_) (fun h2=>?_)
    ·refine Ok.some' ?_;(try simp only [N]);omega
    ·refine Ok.cond' (fun h3=>?_) (fun h3=>?_)
     ·(try simp only [B] at h3);refine Ok.some' ?_;(try simp only [N]);omega
     ·(try simp only [B] at h3);refine Ok.bind (spec_Seal_t ?_ ?_ ?_) (fun r7 hr7=>?_)
      ·(try simp only [N]);omega
      ·(try simp only [N]);omega
      ·(try simp only [N]);omega
      obtain ⟨hr7,hr7i⟩:=hr7;(try simp only [N] at hr7);refine Ok.some' ?_;(try have:=iadd_eq (a:=a0.Seq) (b:=1) (by omega) (by omega));(try simp only [N]);omega
   refine Ok.cond' (fun h4=>?_) (fun h4=>?_)
   ·exact hk6 _ trivial
   ·exact hk6 _ trivial
 refine Ok.cond' (fun h5=>?_) (fun h5=>?_)
 ·exact hk3 _ trivial
 ·(try simp only [B] at h5);have f6:=epOk_f h5;(try simp only [N] at f6);refine Ok.bind (spec_HeadOf_t ?_) (fun r4 hr4=>?_)
  ·(try simp only [N]);omega
  (try simp only [N] at hr4);refine Ok.cond' (fun h7=>?_) (fun h7=>?_)
  ·exact hk3 _ trivial
  ·(try simp only [B] at h7);refine Ok.cond' (fun h8=>?_) (fun h8=>?_)
   ·exact hk3 _ trivial
   ·exact hk3 _ trivial
theorem spec_ChanSeal_t {a0:G.Chan} {a1:Int} {a2:List UInt8} (ha:wt a0≤1000000000) (hb:wt a2≤1000000000):Ok (spec_ChanSeal.raw a0 a1 a2) fun r=>wt r.1≤wt a0∧wt r.2.1≤300:=by
 (try simp only [N] at ha);(try simp only [N] at hb);have hL:=LIM_is
 unfold spec_ChanSeal.raw
 refine Ok.same (pt_some ?_) ?_
 ·(try simp only [N]);omega
 refine Ok.bind (chanOkO_t ?_) (fun r2 hr2=>?_)
 ·(try simp only [N]);omega
 refine Ok.cond' (fun h1=>?_) (fun h1=>?_)
 ·(try simp only [B] at h1);refine Ok.some' ?_;(try simp only [N]);omega
 ·(try simp only [B] at h1);replace hr2:=hr2 h1;(try simp only [N] at hr2);refine Ok.bind (spec_EpSeal_t ?_ ?_ ?_) (fun r3 hr3=>?_)
  ·(try simp only [N]);omega
  ·(try simp only [N]);omega
  ·(try simp only [N]);omega
  (try simp only [N] at hr3);refine Ok.join (fun y4:G.Chan=>wt y4≤wt a0) (fun y4 hy4=>?_) (fun k5 hk5=>?_)
  ·(try simp only [N] at hy4);refine Ok.some' ?_;(try simp only [N]);omega
  refine Ok.cond' (fun h2=>?_) (fun h2=>?_)
  ·(try simp only [B] at h2);refine hk5 _ ?_;(try simp only [N]);omega
  ·(try simp only [B] at h2);refine hk5 _ ?_;(try simp only [N]);omega
theorem spec_Made_t {a0:List UInt8} {a1:List UInt8} (ha:wt a0≤1000000000) (hb:wt a1≤1000000000):Ok (spec_Made.raw a0 a1) fun r=>wt r≤a0.length+a1.length:=by
 (try simp only [N] at ha);(try simp only [N] at hb);have hL:=LIM_is
 unfold spec_Made.raw
 refine Ok.guard ?_ ?_
 ·(try simp only [N]);omega
 refine Ok.guard ?_ ?_
 ·(try simp only [N]);omega
 refine Ok.some' ?_;(try simp only [N]);omega
theorem spec_l19Made_t {a0:G.Chan} {a1:G.Frame} (ha:wt a0≤1000000000) (hb:wt a1≤1000000000):Ok (spec_l19Made.raw a0 a1) fun r=>wt r≤a0.Cur.Key.length+160:=by
 (try simp only [N] at ha);(try simp only [N] at hb);have hL:=LIM_is
 unfold spec_l19Made.raw
 refine Ok.bind (spec_TagInput_t ?_) (fun r1 hr1=>?_)
 ·(try simp only [N]);omega
 (try simp only [N] at hr1);refine Ok.bind (spec_Made_t ?_ ?_) (fun r2 hr2=>?_)
 ·(try simp only [N]);omega
 ·(try simp only [N]);omega
 (try simp only [N] at hr2);refine Ok.some' ?_;(try simp only [N]);omega
theorem spec_Took_t {a0:List UInt8} {a1:List UInt8} {a2:List UInt8} (ha:wt a0≤1000000000) (hb:wt a1≤1000000000) (hc:wt a2≤1000000000):Ok (spec_Took.raw a0 a1 a2) fun r=>wt r≤a0.length+a1.length+a2.length:=by
 (try simp only [N] at ha);(try simp only [N] at hb);(try simp only [N] at hc);have hL:=LIM_is
 unfold spec_Took.raw
 refine Ok.guard ?_ ?_
 ·(try simp only [N]);omega
 refine Ok.guard ?_ ?_
 ·(try simp only [N]);omega
 refine Ok.guard ?_ ?_
 ·(try simp only [N]);omega
 refine Ok.some' ?_;(try simp only [N]);omega
theorem spec_ChanTick_t {a0:G.Chan} {a1:Int} (ha:wt a0≤1000000000):Ok (spec_ChanTick.raw a0 a1) fun r=>wt r≤wt a0:=by
 (try simp only [N] at ha);have hL:=LIM_is
 unfold spec_ChanTick.raw
 refine Ok.same (pt_some ?_) ?_
 ·(try simp only [N]);omega
 refine Ok.join (fun y2:Bool=>True) (fun y2 hy2=>?_) (fun k3 hk3=>?_)
 ·refine Ok.join (fun y5:G.Chan=>wt y5≤wt a0) (fun y5 hy5=>?_) (fun k6 hk6=>?_)
  ·(try simp only [N] at hy5);refine Ok.some' ?_;(try simp only [N]);omega
  refine Ok.cond' (fun h1=>?_) (fun h1=>?_)
  ·refine hk6 _ ?_;(try simp only [N]);omega
  ·refine hk6 _ ?_;(try simp only [N]);omega
 refine Ok.bind (chanOkO_t ?_) (fun r4 hr4=>?_)
 ·(try simp only [N]);omega
 refine Ok.cond' (fun h2=>?_) (fun h2=>?_)
 ·(try simp only [B] at h2);replace hr4:=hr4 h2;(try simp only [N] at hr4);refine Ok.cond' (fun h3=>?_) (fun h3=>?_)
  ·(try simp only [B] at h3);refine Ok.cond' (fun h4=>?_) (fun h4=>?_)
   ·(try simp only [B] at h4);refine Ok.cond' (fun h5=>?_) (fun h5=>?_)
    ·exact hk3 _ trivial
    ·exact hk3 _ trivial
   ·exact hk3 _ trivial
  ·exact hk3 _ trivial
 ·exact hk3 _ trivial
theorem spec_RekeyBody_t {a0:Int}:Ok (spec_RekeyBody.raw a0) fun r=>r.length≤6:=by
 have hL:=LIM_is
 unfold spec_RekeyBody.raw
 refine Ok.cond' (fun h1=>?_) (fun h1=>?_)
 ·(try simp only [B] at h1);refine Ok.some' ?_;(try simp only [N]);omega
 ·(try simp only [B] at h1);refine Ok.bind (putNO_t ?_) (fun r1 hr1=>?_)
  ·(try simp only [N]);omega
  (try simp only [N] at hr1);refine Ok.some' ?_;(try simp only [N]);omega
theorem spec_AskRekey_t {a0:G.Chan} (ha:wt a0≤1000000000):Ok (spec_AskRekey.raw a0) fun r=>wt r.1≤wt a0∧wt r.2.1≤300:=by
 (try simp only [N] at ha);have hL:=LIM_is
 unfold spec_AskRekey.raw
 refine Ok.join (fun y1:Bool=>True) (fun y1 hy1=>?_) (fun k2 hk2=>?_)
 ·refine Ok.cond' (fun h1=>?_) (fun h1=>?_)
  ·refine Ok.same (pt_some ?_) ?_
   ·(try simp only [N]);omega
   refine Ok.some' ?_;(try simp only [N]);omega
  ·refine Ok.bind (spec_RekeyBody_t) (fun r5 hr5=>?_);(try simp only [N] at hr5);refine Ok.bind (spec_ChanSeal_t ?_ ?_) (fun r6 hr6=>?_)
   ·(try simp only [N]);omega
   ·(try simp only [N]);omega
   (try simp only [N] at hr6);refine Ok.some' ?_;(try simp only [N]);omega
 refine Ok.bind (chanOkO_t ?_) (fun r3 hr3=>?_)
 ·(try simp only [N]);omega
 refine Ok.cond' (fun h2=>?_) (fun h2=>?_)
 ·exact hk2 _ trivial
 ·exact hk2 _ trivial
theorem spec_Ack_t {a0:G.Chan} (ha:wt a0≤1000000000):Ok (spec_Ack.raw a0) fun r=>wt r.1≤wt a0∧wt r.2.1≤300:=by
 (try simp only [N] at ha);have hL:=LIM_is
 unfold spec_Ack.raw
 refine Ok.join (fun y1:Bool=>True) (fun y1 hy1=>?_) (fun k2 hk2=>?_)
 ·refine Ok.cond' (fun h1=>?_) (fun h1=>?_)
  ·refine Ok.same (pt_some ?_) ?_
   ·(try simp only [N]);omega
   refine Ok.some' ?_;(try simp only [N]);omega
  ·refine Ok.bind (spec_RekeyBody_t) (fun r5 hr5=>?_);(try simp only [N] at hr5);refine Ok.bind (spec_ChanSeal_t ?_ ?_) (fun r6 hr6=>?_)
   ·(try simp only [N]);omega
   ·(try simp only [N]);omega
   (try simp only [N] at hr6);refine Ok.some' ?_;(try simp only [N]);omega
 refine Ok.bind (chanOkO_t ?_) (fun r3 hr3=>?_)
 ·(try simp only [N]);omega
 refine Ok.cond' (fun h2=>?_) (fun h2=>?_)
 ·exact hk2 _ trivial
 ·exact hk2 _ trivial
theorem spec_Want_t {a0:G.Chan} (ha:wt a0≤1000000000):Ok (spec_Want.raw a0) fun r=>wt r.1≤wt a0+32:=by
 (try simp only [N] at ha);have hL:=LIM_is
 unfold spec_Want.raw
 refine Ok.same (pt_some ?_) ?_
 ·(try simp only [N]);omega
 refine Ok.join (fun y2:Bool=>True) (fun y2 hy2=>?_) (fun k3 hk3=>?_)
 ·refine Ok.cond' (fun h1=>?_) (fun h1=>?_)
  ·refine Ok.some' ?_;(try simp only [N]);omega
  ·refine Ok.bind (deriveO_t ?_) (fun r5 hr5=>?_)
   ·(try simp only [N]);omega
   (try simp only [N] at hr5);refine Ok.some' ?_;(try simp only [N]);omega
 refine Ok.bind (chanOkO_t ?_) (fun r4 hr4=>?_)
 ·(try simp only [N]);omega
 refine Ok.cond' (fun h2=>?_) (fun h2=>?_)
 ·exact hk3 _ trivial
 ·(try simp only [B] at h2);replace hr4:=hr4 h2;(try simp only [N] at hr4);refine Ok.cond' (fun h3=>?_) (fun h3=>?_)
  ·exact hk3 _ trivial
  ·(try simp only [B] at h3);refine Ok.cond' (fun h4=>?_) (fun h4=>?_)
   ·exact hk3 _ trivial
   ·exact hk3 _ trivial
theorem spec_Turn_t {a0:G.Chan} (ha:wt a0≤1000000000):Ok (spec_Turn.raw a0) fun r=>wt r.1≤wt a0+64:=by
 (try simp only [N] at ha);have hL:=LIM_is
 unfold spec_Turn.raw
 refine Ok.same (pt_some ?_) ?_
 ·(try simp only [N]);omega
 refine Ok.join (fun y2:Bool=>True) (fun y2 hy2=>?_) (fun k3 hk3=>?_)
 ·refine Ok.cond' (fun h1=>?_) (fun h1=>?_)
  ·refine Ok.some' ?_;(try simp only [N]);omega
  ·refine Ok.bind (deriveO_t ?_) (fun r5 hr5=>?_)
   ·(try simp only [N]);omega
   (try simp only [N] at hr5);refine Ok.bind (spec_EpNew_t ?_) (fun r6 hr6=>?_)
   ·(try have:=iadd_eq (a:=a0.Cur.N) (b:=1) (by omega) (by omega));(try simp only [N]);omega
   (try simp only [N] at hr6);refine Ok.some' ?_;(try simp only [N]);omega
 refine Ok.bind (chanOkO_t ?_) (fun r4 hr4=>?_)
 ·(try simp only [N]);omega
 refine Ok.cond' (fun h2=>?_) (fun h2=>?_)
 ·exact hk3 _ trivial
 ·(try simp only [B] at h2);replace hr4:=hr4 h2;(try simp only [N] at hr4);refine Ok.cond' (fun h3=>?_) (fun h3=>?_)
  ·exact hk3 _ trivial
  ·exact hk3 _ trivial
theorem spec_Diff_t {a0:List UInt8} {a1:List UInt8} (ha:a0.length≤1000000000) (hb:a1.length≤1000000000):Ok (spec_Diff.raw a0 a1) fun r=>True:=by
 (try simp only [N] at ha);(try simp only [N] at hb);have hL:=LIM_is
 unfold spec_Diff.raw
 refine Ok.cond' (fun h1=>?_) (fun h1=>?_)
 ·(try simp only [B] at h1);exact Ok.some' trivial
 ·(try simp only [B] at h1);refine Ok.join (fun y1:Int=>True) (fun y1 hy1=>?_) (fun k2 hk2=>?_)
  ·exact Ok.some' trivial
  refine Ok.loop (fun x3:Int × Int=>0≤x3.2∧x3.2≤(a0.length:Int)) (fun x3:Int × Int=>((a0.length:Int) - x3.2).toNat) (fun x3 hx3 k4 hk4=>?_) ?_ ?_
  ·(try simp only [N] at hx3);refine Ok.cond' (fun h2=>?_) (fun h2=>?_)
   ·(try simp only [B] at h2);refine Ok.bind (Ok.idx ?_ ?_) (fun e5 he5=>?_)
    ·(try simp only [N]);omega
    ·(try simp only [N]);omega
    have he5w:=wt_at he5;(try simp only [N] at he5w);refine Ok.bind (Ok.idx ?_ ?_) (fun e6 he6=>?_)
    ·(try simp only [N]);omega
    ·(try simp only [N]);omega
    have he6w:=wt_at he6;(try simp only [N] at he6w);refine hk4 _ ?_ ?_
    ·(try have:=iadd_eq (a:=x3.2) (b:=1) (by omega) (by omega));(try simp only);omega
    ·(try have:=iadd_eq (a:=x3.2) (b:=1) (by omega) (by omega));(try simp only);omega
   ·exact hk2 _ trivial
  ·(try simp only);omega
  ·(try simp only);omega
theorem spec_SameTag_t {a0:List UInt8} {a1:List UInt8} (ha:a0.length≤1000000000) (hb:a1.length≤1000000000):Ok (spec_SameTag.raw a0 a1) fun r=>True:=by
 (try simp only [N] at ha);(try simp only [N] at hb);have hL:=LIM_is
 unfold spec_SameTag.raw
 refine Ok.join (fun y1:Bool=>True) (fun y1 hy1=>?_) (fun k2 hk2=>?_)
 ·exact Ok.some' trivial
 refine Ok.cond' (fun h1=>?_) (fun h1=>?_)
 ·(try simp only [B] at h1);refine Ok.bind (spec_Diff_t ?_ ?_) (fun r3 hr3=>?_)
  ·(try simp only [N]);omega
  ·(try simp only [N]);omega
  exact hk2 _ trivial
 ·exact hk2 _ trivial
theorem spec_Unseal_t {a0:List UInt8} {a1:Int} {a2:G.Frame} (ha:wt a0≤1000000000) (hb:wt a2≤1000000000):Ok (spec_Unseal.raw a0 a1 a2) fun r=>r.1.length≤200:=by
 (try simp only [N] at ha);(try simp only [N] at hb);have hL:=LIM_is
 unfold spec_Unseal.raw
 refine Ok.bind (spec_TagInput_t ?_) (fun r1 hr1=>?_)
 ·(try simp only [N]);omega
 (try simp only [N] at hr1);refine Ok.join (fun y2:Bool=>True) (fun y2 hy2=>?_) (fun k3 hk3=>?_)
 ·refine Ok.cond' (fun h1=>?_) (fun h1=>?_)
  ·refine Ok.some' ?_;(try simp only [N]);omega
  ·refine Ok.bind (spec_HeadOf_t ?_) (fun r6 hr6=>?_)
   ·(try simp only [N]);omega
   (try simp only [N] at hr6);refine Ok.bind (spec_Mix_t ?_ ?_) (fun r7 hr7=>?_)
   ·(try simp only [N]);omega
   ·(try simp only [N]);omega
   (try simp only [N] at hr7);refine Ok.some' ?_;(try simp only);omega
 refine Ok.cond' (fun h2=>?_) (fun h2=>?_)
 ·exact hk3 _ trivial
 ·(try simp only [B] at h2);refine Ok.cond' (fun h3=>?_) (fun h3=>?_)
  ·exact hk3 _ trivial
  ·(try simp only [B] at h3);refine Ok.bind (spec_Tag_t) (fun r4 hr4=>?_);(try simp only [N] at hr4);refine Ok.bind (spec_SameTag_t ?_ ?_) (fun r5 hr5=>?_)
   ·(try simp only [N]);omega
   ·(try simp only [N]);omega
   exact hk3 _ trivial
theorem spec_EpOpen_t {a0:G.Ep} {a1:Int} {a2:G.Frame} (ha:wt a0≤1000000000) (hb:wt a2≤1000000000):Ok (spec_EpOpen.raw a0 a1 a2) fun r=>wt r.1≤wt a0∧r.2.1.length≤200:=by
 (try simp only [N] at ha);(try simp only [N] at hb);have hL:=LIM_is
 unfold spec_EpOpen.raw
 refine Ok.same (pt_some ?_) ?_
 ·(try simp only [N]);omega
 refine Ok.join (fun y2:Bool=>True) (fun y2 hy2=>?_) (fun k3 hk3=>?_)
 ·refine Ok.cond' (fun h1=>?_) (fun h1=>?_)
  ·refine Ok.some' ?_;(try simp only [N]);omega
  ·refine Ok.bind (spec_WinMay_t) (fun r5 hr5=>?_);obtain ⟨hr5,hr5i⟩:=hr5;refine Ok.cond' (fun h2=>?_) (fun h2=>?_)
   ·(try simp only [B] at h2);refine Ok.some' ?_;(try simp only [N]);omega
   ·(try simp only [B] at h2);replace hr5i:=hr5i h2;(try simp only [N] at hr5i);refine Ok.bind (spec_Unseal_t ?_ ?_) (fun r6 hr6=>?_)
    ·(try simp only [N]);omega
    ·(try simp only [N]);omega
    (try simp only [N] at hr6);refine Ok.cond' (fun h3=>?_) (fun h3=>?_)
    ·(try simp only [B] at h3);refine Ok.some' ?_;(try simp only [N]);omega
    ·(try simp only [B] at h3);refine Ok.bind (spec_WinAdd_t ?_) (fun r7 hr7=>?_)
     ·(try simp only [N]);omega
     (try simp only [N] at hr7);refine Ok.some' ?_;(try simp only [N]);omega
 refine Ok.cond' (fun h4=>?_) (fun h4=>?_)
 ·exact hk3 _ trivial
 ·(try simp only [B] at h4);have f5:=epOk_f h4;(try simp only [N] at f5);refine Ok.bind (spec_TagInput_t ?_) (fun r4 hr4=>?_)
  ·(try simp only [N]);omega
  (try simp only [N] at hr4);refine Ok.cond' (fun h6=>?_) (fun h6=>?_)
  ·exact hk3 _ trivial
  ·exact hk3 _ trivial
theorem spec_ChanOpen_t {a0:G.Chan} {a1:Int} {a2:G.Frame} (ha:wt a0≤1000000000) (hb:wt a2≤1000000000):Ok (spec_ChanOpen.raw a0 a1 a2) fun r=>wt r.1≤wt a0+64∧r.2.1.length≤200:=by
 (try simp only [N] at ha);(try simp only [N] at hb);have hL:=LIM_is
 unfold spec_ChanOpen.raw
 refine Ok.same (pt_some ?_) ?_
 ·(try simp only [N]);omega
 refine Ok.join (fun y2:Bool=>True) (fun y2 hy2=>?_) (fun k3 hk3=>?_)
 ·refine Ok.cond' (fun h1=>?_) (fun h1=>?_)
  ·refine Ok.some' ?_;(try simp only [N]);omega
  ·refine Ok.bind (sameO_t ?_) (fun r5 hr5=>?_)
   ·(try simp only [N]);omega
   (try simp only [N] at hr5);refine Ok.cond' (fun h2=>?_) (fun h2=>?_)
   ·(try simp only [B] at h2);refine Ok.some' ?_;(try simp only [N]);omega
   ·(try simp only [B] at h2);refine Ok.cond' (fun h3=>?_) (fun h3=>?_)
    ·(try simp only [B] at h3);refine Ok.bind (spec_EpOpen_t ?_ ?_) (fun r6 hr6=>?_)
     ·(try have:=isub_eq (a:=1) (b:=a0.Role) (by omega) (by omega));(try simp only [N]);omega
     ·(try have:=isub_eq (a:=1) (b:=a0.Role) (by omega) (by omega));(try simp only [N]);omega
     (try simp only [N] at hr6);refine Ok.cond' (fun h4=>?_) (fun h4=>?_)
     ·(try simp only [B] at h4);refine Ok.some' ?_;(try simp only [N]);omega
     ·(try simp only [B] at h4);refine Ok.join (fun y7:Bool=>True) (fun y7 hy7=>?_) (fun k8 hk8=>?_)
      ·refine Ok.join (fun y9:G.Chan=>wt y9≤wt a0+64) (fun y9 hy9=>?_) (fun k10 hk10=>?_)
       ·(try simp only [N] at hy9);refine Ok.some' ?_;(try simp only [N]);omega
       refine Ok.cond' (fun h5=>?_) (fun h5=>?_)
       ·refine hk10 _ ?_;(try have:=iadd_eq (a:=a1) (b:=5) (by omega) (by omega));(try simp only [N]);omega
       ·refine hk10 _ ?_;(try simp only [N]);omega
      refine Ok.cond' (fun h6=>?_) (fun h6=>?_)
      ·exact hk8 _ trivial
      ·exact hk8 _ trivial
    ·(try simp only [B] at h3);refine Ok.join (fun y11:Bool=>True) (fun y11 hy11=>?_) (fun k12 hk12=>?_)
     ·refine Ok.cond' (fun h7=>?_) (fun h7=>?_)
      ·refine Ok.join (fun y13:Bool=>True) (fun y13 hy13=>?_) (fun k14 hk14=>?_)
       ·refine Ok.cond' (fun h8=>?_) (fun h8=>?_)
        ·refine Ok.some' ?_;(try simp only [N]);omega
        ·refine Ok.bind (spec_EpOpen_t ?_ ?_) (fun r15 hr15=>?_)
         ·(try have:=isub_eq (a:=1) (b:=a0.Role) (by omega) (by omega));(try simp only [N]);omega
         ·(try have:=isub_eq (a:=1) (b:=a0.Role) (by omega) (by omega));(try simp only [N]);omega
         (try simp only [N] at hr15);refine Ok.cond' (fun h9=>?_) (fun h9=>?_)
         ·(try simp only [B] at h9);refine Ok.some' ?_;(try simp only [N]);omega
         ·(try simp only [B] at h9);refine Ok.some' ?_;(try simp only [N]);omega
       refine Ok.cond' (fun h10=>?_) (fun h10=>?_)
       ·exact hk14 _ trivial
       ·exact hk14 _ trivial
      ·refine Ok.join (fun y16:Bool=>True) (fun y16 hy16=>?_) (fun k17 hk17=>?_)
       ·refine Ok.cond' (fun h11=>?_) (fun h11=>?_)
        ·refine Ok.bind (spec_EpNew_t ?_) (fun r18 hr18=>?_)
         ·(try have:=iadd_eq (a:=a0.Cur.N) (b:=1) (by omega) (by omega));(try simp only [N]);omega
         (try simp only [N] at hr18);refine Ok.bind (spec_EpOpen_t ?_ ?_) (fun r19 hr19=>?_)
         ·(try have:=isub_eq (a:=1) (b:=a0.Role) (by omega) (by omega));(try simp only [N]);omega
         ·(try have:=isub_eq (a:=1) (b:=a0.Role) (by omega) (by omega));(try simp only [N]);omega
         (try simp only [N] at hr19);refine Ok.cond' (fun h12=>?_) (fun h12=>?_)
         ·(try simp only [B] at h12);refine Ok.some' ?_;(try simp only [N]);omega
         ·(try simp only [B] at h12);refine Ok.some' ?_;(try have:=iadd_eq (a:=a1) (b:=5) (by omega) (by omega));(try simp only [N]);omega
        ·refine Ok.some' ?_;(try simp only [N]);omega
       refine Ok.cond' (fun h13=>?_) (fun h13=>?_)
       ·exact hk17 _ trivial
       ·exact hk17 _ trivial
     refine Ok.cond' (fun h14=>?_) (fun h14=>?_)
     ·exact hk12 _ trivial
     ·exact hk12 _ trivial
 refine Ok.bind (chanOkO_t ?_) (fun r4 hr4=>?_)
 ·(try simp only [N]);omega
 refine Ok.cond' (fun h15=>?_) (fun h15=>?_)
 ·exact hk3 _ trivial
 ·(try simp only [B] at h15);replace hr4:=hr4 h15;(try simp only [N] at hr4);refine Ok.cond' (fun h16=>?_) (fun h16=>?_)
  ·exact hk3 _ trivial
  ·(try simp only [B] at h16);refine Ok.cond' (fun h17=>?_) (fun h17=>?_)
   ·exact hk3 _ trivial
   ·exact hk3 _ trivial
theorem spec_KeyFor_t {a0:G.Chan} {a1:Int} (ha:wt a0≤1000000000):Ok (spec_KeyFor.raw a0 a1) fun r=>r.1.length≤wt a0:=by
 (try simp only [N] at ha);have hL:=LIM_is
 unfold spec_KeyFor.raw
 refine Ok.bind (chanOkO_t ?_) (fun r1 hr1=>?_)
 ·(try simp only [N]);omega
 refine Ok.cond' (fun h1=>?_) (fun h1=>?_)
 ·(try simp only [B] at h1);refine Ok.some' ?_;(try simp only [N]);omega
 ·(try simp only [B] at h1);replace hr1:=hr1 h1;(try simp only [N] at hr1);refine Ok.join (fun y2:Bool=>True) (fun y2 hy2=>?_) (fun k3 hk3=>?_)
  ·refine Ok.cond' (fun h2=>?_) (fun h2=>?_)
   ·refine Ok.guard ?_ ?_
    ·(try simp only [N]);omega
    refine Ok.some' ?_;(try simp only [N]);omega
   ·refine Ok.cond' (fun h3=>?_) (fun h3=>?_)
    ·(try simp only [B] at h3);refine Ok.guard ?_ ?_
     ·(try simp only [N]);omega
     refine Ok.some' ?_;(try simp only [N]);omega
    ·(try simp only [B] at h3);refine Ok.join (fun y4:Bool=>True) (fun y4 hy4=>?_) (fun k5 hk5=>?_)
     ·refine Ok.cond' (fun h4=>?_) (fun h4=>?_)
      ·refine Ok.guard ?_ ?_
       ·(try simp only [N]);omega
       refine Ok.some' ?_;(try simp only [N]);omega
      ·refine Ok.some' ?_;(try simp only [N]);omega
     refine Ok.cond' (fun h5=>?_) (fun h5=>?_)
     ·exact hk5 _ trivial
     ·exact hk5 _ trivial
  refine Ok.cond' (fun h6=>?_) (fun h6=>?_)
  ·exact hk3 _ trivial
  ·exact hk3 _ trivial
theorem spec_HearRekey_t {a0:G.Chan} {a1:Int} {a2:List UInt8} (ha:wt a0≤1000000000) (hb:wt a2≤1000000000):Ok (spec_HearRekey.raw a0 a1 a2) fun r=>wt r.1≤wt a0+64:=by
 (try simp only [N] at ha);(try simp only [N] at hb);have hL:=LIM_is
 unfold spec_HearRekey.raw
 refine Ok.same (pt_some ?_) ?_
 ·(try simp only [N]);omega
 refine Ok.join (fun y2:Bool=>True) (fun y2 hy2=>?_) (fun k3 hk3=>?_)
 ·refine Ok.cond' (fun h1=>?_) (fun h1=>?_)
  ·refine Ok.some' ?_;(try simp only [N]);omega
  ·refine Ok.cond' (fun h2=>?_) (fun h2=>?_)
   ·(try simp only [B] at h2);refine Ok.bind (spec_Turn_t ?_) (fun r7 hr7=>?_)
    ·(try simp only [N]);omega
    (try simp only [N] at hr7);refine Ok.cond' (fun h3=>?_) (fun h3=>?_)
    ·(try simp only [B] at h3);refine Ok.some' ?_;(try simp only [N]);omega
    ·(try simp only [B] at h3);refine Ok.some' ?_;(try simp only [N]);omega
   ·(try simp only [B] at h2);refine Ok.cond' (fun h4=>?_) (fun h4=>?_)
    ·(try simp only [B] at h4);(try have:=isub_eq (a:=a0.Cur.N) (b:=1) (by omega) (by omega));refine Ok.some' ?_;(try simp only [N]);omega
    ·(try simp only [B] at h4);(try have:=isub_eq (a:=a0.Cur.N) (b:=1) (by omega) (by omega));refine Ok.some' ?_;(try simp only [N]);omega
 refine Ok.bind (chanOkO_t ?_) (fun r4 hr4=>?_)
 ·(try simp only [N]);omega
 refine Ok.cond' (fun h5=>?_) (fun h5=>?_)
 ·exact hk3 _ trivial
 ·(try simp only [B] at h5);replace hr4:=hr4 h5;(try simp only [N] at hr4);refine Ok.cond' (fun h6=>?_) (fun h6=>?_)
  ·exact hk3 _ trivial
  ·(try simp only [B] at h6);refine Ok.cond' (fun h7=>?_) (fun h7=>?_)
   ·exact hk3 _ trivial
   ·(try simp only [B] at h7);refine Ok.bind (spec_RekeyBody_t) (fun r5 hr5=>?_);(try simp only [N] at hr5);refine Ok.bind (sameO_t ?_) (fun r6 hr6=>?_)
    ·(try simp only [N]);omega
    (try simp only [N] at hr6);exact hk3 _ trivial
theorem spec_KeysOf_t {a0:G.Chan} (ha:wt a0≤1000000000):Ok (spec_KeysOf.raw a0) fun r=>wt r≤400:=by
 (try simp only [N] at ha);have hL:=LIM_is
 unfold spec_KeysOf.raw
 refine Ok.bind (chanOkO_t ?_) (fun r1 hr1=>?_)
 ·(try simp only [N]);omega
 refine Ok.cond' (fun h1=>?_) (fun h1=>?_)
 ·(try simp only [B] at h1);refine Ok.some' ?_;(try simp only [N]);omega
 ·(try simp only [B] at h1);replace hr1:=hr1 h1;(try simp only [N] at hr1);refine Ok.join (fun y2:(List (List UInt8))=>wt y2≤200) (fun y2 hy2=>?_) (fun k3 hk3=>?_)
  ·(try simp only [N] at hy2);refine Ok.guard ?_ ?_
   ·(try simp only [N]);omega
   refine Ok.guard ?_ ?_
   ·(try simp only [N]);omega
   refine Ok.join (fun y4:(List (List UInt8))=>wt y4≤400) (fun y4 hy4=>?_) (fun k5 hk5=>?_)
   ·(try simp only [N] at hy4);refine Ok.some' ?_;(try simp only [N]);omega
   refine Ok.cond' (fun h2=>?_) (fun h2=>?_)
   ·(try simp only [B] at h2);refine Ok.guard ?_ ?_
    ·(try simp only [N]);omega
    refine Ok.guard ?_ ?_
    ·(try simp only [N]);omega
    refine hk5 _ ?_;(try simp only [N]);omega
   ·(try simp only [B] at h2);refine hk5 _ ?_;(try simp only [N]);omega
  refine Ok.cond' (fun h3=>?_) (fun h3=>?_)
  ·(try simp only [B] at h3);refine Ok.guard ?_ ?_
   ·(try simp only [N]);omega
   refine Ok.guard ?_ ?_
   ·(try simp only [N]);omega
   refine hk3 _ ?_;(try simp only [N]);omega
  ·(try simp only [B] at h3);refine hk3 _ ?_;(try simp only [N]);omega
theorem spec_PathTick_t {a0:G.Paths} {a1:Int} (ha:wt a0≤1000000000):Ok (spec_PathTick.raw a0 a1) fun r=>wt r≤wt a0+1600:=by
 (try simp only [N] at ha);have hL:=LIM_is;have hw:=wt_len a0.Cands;(try simp only [N] at hw)
 unfold spec_PathTick.raw
 refine Ok.join (fun y1:Bool=>y1=false→wt a0≤39∧a0.Cands.length≤3) (fun y1 hy1=>?_) (fun k2 hk2=>?_)
 ·refine Ok.cond' (fun h1=>?_) (fun h1=>?_)
  ·refine Ok.same (pt_some ?_) ?_
   ·(try simp only [N]);omega
   refine Ok.some' ?_;(try simp only [N]);omega
  ·replace hy1:=hy1 h1;(try simp only [N] at hy1);refine Ok.join (fun y4:G.Paths=>wt y4≤1600) (fun y4 hy4=>?_) (fun k5 hk5=>?_)
   ·(try simp only [N] at hy4);refine Ok.some' ?_;(try simp only [N]);omega
   refine Ok.loop (fun x6:Int × G.Paths=>0≤x6.1∧x6.1≤(a0.Cands.length:Int)∧wt x6.2≤40 *x6.1) (fun x6:Int × G.Paths=>((a0.Cands.length:Int) - x6.1).toNat) (fun x6 hx6 k7 hk7=>?_) ?_ ?_
   ·(try simp only [N] at hx6);refine Ok.cond' (fun h2=>?_) (fun h2=>?_)
    ·(try simp only [B] at h2);refine Ok.bind (Ok.idx ?_ ?_) (fun e8 he8=>?_)
     ·(try simp only [N]);omega
     ·(try simp only [N]);omega
     have he8w:=wt_at he8;(try simp only [N] at he8w);refine Ok.join (fun y9:G.Paths=>wt y9≤40 *x6.1+40) (fun y9 hy9=>?_) (fun k10 hk10=>?_)
     ·(try simp only [N] at hy9);refine hk7 _ ?_ ?_
      ·(try have:=iadd_eq (a:=x6.1) (b:=1) (by omega) (by omega));(try simp only [N]);omega
      ·(try have:=iadd_eq (a:=x6.1) (b:=1) (by omega) (by omega));(try simp only);omega
     refine Ok.cond' (fun h3=>?_) (fun h3=>?_)
     ·(try simp only [B] at h3);refine Ok.bind (Ok.idx ?_ ?_) (fun e11 he11=>?_)
      ·(try simp only [N]);omega
      ·(try simp only [N]);omega
      have he11w:=wt_at he11;(try simp only [N] at he11w);refine Ok.same (pt_some ?_) ?_
      ·(try simp only [N]);omega
      refine Ok.guard ?_ ?_
      ·(try simp only [N]);omega
      refine hk10 _ ?_;(try simp only [N]);omega
     ·(try simp only [B] at h3);refine hk10 _ ?_;(try simp only [N]);omega
    ·(try simp only [B] at h2);refine hk5 _ ?_;(try simp only [N]);omega
   ·(try simp only [N]);omega
   ·(try simp only);omega
 refine Ok.cond' (fun h4=>?_) (fun h4=>?_)
 ·exact hk2 _ fun h=>nomatch h
 ·(try simp only [B] at h4);have f5:=pathsOk_f h4;(try simp only [N] at f5);refine hk2 _ fun q6=>?_;(try simp only [B] at q6);(try simp only [N]);omega
theorem spec_Offer_t {a0:G.Paths} {a1:Int} {a2:G.Addr} {a3:List UInt8} (ha:wt a0≤1000000000) (hb:wt a3≤1000000000):Ok (spec_Offer.raw a0 a1 a2 a3) fun r=>wt r.1≤wt a0+1700:=by
 (try simp only [N] at ha);(try simp only [N] at hb);have hL:=LIM_is
 unfold spec_Offer.raw
 refine Ok.join (fun y1:Bool=>y1=false→a3.length=12) (fun y1 hy1=>?_) (fun k2 hk2=>?_)
 ·refine Ok.cond' (fun h1=>?_) (fun h1=>?_)
  ·refine Ok.same (pt_some ?_) ?_
   ·(try simp only [N]);omega
   refine Ok.some' ?_;(try simp only [N]);omega
  ·replace hy1:=hy1 h1;(try simp only [N] at hy1);refine Ok.bind (spec_PathTick_t ?_) (fun r5 hr5=>?_)
   ·(try simp only [N]);omega
   (try simp only [N] at hr5);have hw:=wt_len r5.Cands;(try simp only [N] at hw);refine Ok.join (fun y6:G.Paths=>True) (fun y6 hy6=>?_) (fun k7 hk7=>?_)
   ·refine Ok.cond' (fun h2=>?_) (fun h2=>?_)
    ·(try simp only [B] at h2);refine Ok.same (pt_some ?_) ?_
     ·(try simp only [N]);omega
     refine Ok.some' ?_;(try simp only [N]);omega
    ·(try simp only [B] at h2);refine Ok.guard ?_ ?_
     ·(try simp only [N]);omega
     refine Ok.guard ?_ ?_
     ·(try have:=iadd_eq (a:=a1) (b:=6) (by omega) (by omega));(try simp only [N]);omega
     refine Ok.some' ?_;(try have:=iadd_eq (a:=a1) (b:=6) (by omega) (by omega));(try simp only [N]);omega
   refine Ok.loop (fun x8:Int × G.Paths=>0≤x8.1∧x8.1≤(r5.Cands.length:Int)) (fun x8:Int × G.Paths=>((r5.Cands.length:Int) - x8.1).toNat) (fun x8 hx8 k9 hk9=>?_) ?_ ?_
   ·(try simp only [N] at hx8);refine Ok.cond' (fun h3=>?_) (fun h3=>?_)
    ·(try simp only [B] at h3);refine Ok.chk ?_ ?_
     ·(try simp only [B]);omega
     refine Ok.bind (Ok.get ?_) (fun e10 he10=>?_)
     ·(try simp only [N]);omega
     have he10w:=wt_at he10;(try simp only [N] at he10w);refine Ok.cond' (fun h4=>?_) (fun h4=>?_)
     ·(try simp only [B] at h4);refine Ok.same (pt_some ?_) ?_
      ·(try simp only [N]);omega
      refine Ok.some' ?_;(try simp only [N]);omega
     ·(try simp only [B] at h4);refine hk9 _ ?_ ?_
      ·(try have:=iadd_eq (a:=x8.1) (b:=1) (by omega) (by omega));(try simp only);omega
      ·(try have:=iadd_eq (a:=x8.1) (b:=1) (by omega) (by omega));(try simp only);omega
    ·exact hk7 _ trivial
   ·(try simp only);omega
   ·(try simp only);omega
 refine Ok.cond' (fun h5=>?_) (fun h5=>?_)
 ·exact hk2 _ fun h=>nomatch h
 ·(try simp only [B] at h5);have f6:=pathsOk_f h5;(try simp only [N] at f6);refine Ok.cond' (fun h7=>?_) (fun h7=>?_)
  ·exact hk2 _ fun h=>nomatch h
  ·(try simp only [B] at h7);refine Ok.cond' (fun h8=>?_) (fun h8=>?_)
   ·exact hk2 _ fun h=>nomatch h
   ·(try simp only [B] at h8);have f9:=addrOk_f h8;(try simp only [N] at f9);refine Ok.cond' (fun h10=>?_) (fun h10=>?_)
    ·exact hk2 _ fun h=>nomatch h
    ·(try simp only [B] at h10);refine hk2 _ fun q11=>?_;(try simp only [B] at q11);(try simp only [N]);omega
theorem spec_Answer_t {a0:G.Paths} {a1:Int} {a2:G.Addr} {a3:List UInt8} (ha:wt a0≤1000000000) (hb:wt a3≤1000000000):Ok (spec_Answer.raw a0 a1 a2 a3) fun r=>wt r.1≤wt a0+1600:=by
 (try simp only [N] at ha);(try simp only [N] at hb);have hL:=LIM_is;have hw:=wt_len a0.Cands;(try simp only [N] at hw)
 unfold spec_Answer.raw
 refine Ok.bind (candOfO_t ?_) (fun r1 hr1=>?_)
 ·(try simp only [N]);omega
 obtain ⟨hr1,hr1i⟩:=hr1;(try simp only [N] at hr1);refine Ok.join (fun y2:Bool=>y2=false→wt a0≤39∧a0.Cands.length≤3) (fun y2 hy2=>?_) (fun k3 hk3=>?_)
 ·refine Ok.cond' (fun h1=>?_) (fun h1=>?_)
  ·refine Ok.same (pt_some ?_) ?_
   ·(try simp only [N]);omega
   refine Ok.some' ?_;(try simp only [N]);omega
  ·replace hy2:=hy2 h1;(try simp only [N] at hy2);refine Ok.join (fun y6:G.Paths=>wt y6≤1600) (fun y6 hy6=>?_) (fun k7 hk7=>?_)
   ·(try simp only [N] at hy6);refine Ok.some' ?_;(try simp only [N]);omega
   refine Ok.loop (fun x8:Int × G.Paths=>0≤x8.1∧x8.1≤(a0.Cands.length:Int)∧wt x8.2≤40 *x8.1) (fun x8:Int × G.Paths=>((a0.Cands.length:Int) - x8.1).toNat) (fun x8 hx8 k9 hk9=>?_) ?_ ?_
   ·(try simp only [N] at hx8);refine Ok.cond' (fun h2=>?_) (fun h2=>?_)
    ·(try simp only [B] at h2);refine Ok.bind (Ok.idx ?_ ?_) (fun e10 he10=>?_)
     ·(try simp only [N]);omega
     ·(try simp only [N]);omega
     have he10w:=wt_at he10;(try simp only [N] at he10w);refine Ok.join (fun y12:G.Paths=>wt y12≤40 *x8.1+40) (fun y12 hy12=>?_) (fun k13 hk13=>?_)
     ·(try simp only [N] at hy12);refine hk9 _ ?_ ?_
      ·(try have:=iadd_eq (a:=x8.1) (b:=1) (by omega) (by omega));(try simp only [N]);omega
      ·(try have:=iadd_eq (a:=x8.1) (b:=1) (by omega) (by omega));(try simp only);omega
     refine Ok.cond' (fun h3=>?_) (fun h3=>?_)
     ·(try simp only [B] at h3);refine Ok.bind (Ok.idx ?_ ?_) (fun e14 he14=>?_)
      ·(try simp only [N]);omega
      ·(try simp only [N]);omega
      have he14w:=wt_at he14;(try simp only [N] at he14w);refine Ok.same (pt_some ?_) ?_
      ·(try simp only [N]);omega
      refine Ok.guard ?_ ?_
      ·(try simp only [N]);omega
      refine hk13 _ ?_;(try simp only [N]);omega
     ·(try simp only [B] at h3);refine hk13 _ ?_;(try simp only [N]);omega
    ·(try simp only [B] at h2);refine hk7 _ ?_;(try simp only [N]);omega
   ·(try simp only [N]);omega
   ·(try simp only);omega
 refine Ok.cond' (fun h4=>?_) (fun h4=>?_)
 ·exact hk3 _ fun h=>nomatch h
 ·(try simp only [B] at h4);replace hr1i:=hr1i h4;(try simp only [N] at hr1i);refine Ok.cond' (fun h5=>?_) (fun h5=>?_)
  ·exact hk3 _ fun h=>nomatch h
  ·(try simp only [B] at h5);refine Ok.bind (sameO_t ?_) (fun r4 hr4=>?_)
   ·(try simp only [N]);omega
   (try simp only [N] at hr4);refine Ok.cond' (fun h6=>?_) (fun h6=>?_)
   ·exact hk3 _ fun h=>nomatch h
   ·(try simp only [B] at h6);refine hk3 _ fun q7=>?_;(try simp only [B] at q7);(try simp only [N]);omega
theorem spec_Gain_t {a0:List G.Credit} {a1:G.Addr} {a2:Int} (ha:wt a0≤1000000000):Ok (spec_Gain.raw a0 a1 a2) fun r=>wt r≤wt a0+1:=by
 (try simp only [N] at ha);have hL:=LIM_is;have hc:=cAt_bd a0 a1;(try simp only [N] at hc);have hw:=wt_len a0;(try simp only [N] at hw)
 unfold spec_Gain.raw
 refine Ok.guard ?_ ?_
 ·(try simp only [N]);omega
 refine Ok.join (fun y1:Bool=>True) (fun y1 hy1=>?_) (fun k2 hk2=>?_)
 ·refine Ok.cond' (fun h1=>?_) (fun h1=>?_)
  ·refine Ok.some' ?_;(try simp only [N]);omega
  ·refine Ok.cond' (fun h2=>?_) (fun h2=>?_)
   ·(try simp only [B] at h2);refine Ok.cond' (fun h3=>?_) (fun h3=>?_)
    ·(try simp only [B] at h3);refine Ok.some' ?_;(try simp only [N]);omega
    ·(try simp only [B] at h3);refine Ok.guard ?_ ?_
     ·(try simp only [N]);omega
     refine Ok.some' ?_;(try simp only [N]);omega
   ·(try simp only [B] at h2);refine Ok.chk ?_ ?_
    ·(try simp only [B,N]);omega
    refine Ok.bind (Ok.get ?_) (fun e3 he3=>?_)
    ·(try simp only [N]);omega
    have he3w:=wt_at he3;(try simp only [N] at he3w);refine Ok.chk ?_ ?_
    ·(try simp only [B,N]);omega
    refine Ok.bind (Ok.get ?_) (fun e4 he4=>?_)
    ·(try simp only [N]);omega
    have he4w:=wt_at he4;(try simp only [N] at he4w);refine Ok.chk ?_ ?_
    ·(try have:=iadd_eq (a:=e3.Got) (b:=a2) (by omega) (by omega));have:=wt_set_le ([]++a0) ((cAt a0 a1).toNat) (⟨e4.A,iadd .i64 e3.Got a2,e4.Sent⟩:G.Credit);(try simp only [N] at this);(try simp only [B,N]);omega
    refine Ok.bind (Ok.get ?_) (fun e6 he6=>?_)
    ·(try simp only [N]);omega
    have he6w:=wt_at he6;(try simp only [N] at he6w);refine Ok.join (fun y7:(List G.Credit)=>wt y7≤wt a0+1) (fun y7 hy7=>?_) (fun k8 hk8=>?_)
    ·(try simp only [N] at hy7);refine Ok.some' ?_;(try simp only [N]);omega
    refine Ok.cond' (fun h4=>?_) (fun h4=>?_)
    ·(try simp only [B] at h4);refine Ok.chk ?_ ?_
     ·(try have:=iadd_eq (a:=e3.Got) (b:=a2) (by omega) (by omega));have:=wt_set_le ([]++a0) ((cAt a0 a1).toNat) (⟨e4.A,iadd .i64 e3.Got a2,e4.Sent⟩:G.Credit);(try simp only [N] at this);(try simp only [B,N]);omega
     refine Ok.bind (Ok.get ?_) (fun e9 he9=>?_)
     ·(try simp only [N]);omega
     have he9w:=wt_at he9;(try simp only [N] at he9w);refine hk8 _ ?_;(try have:=iadd_eq (a:=e3.Got) (b:=a2) (by omega) (by omega));have:=wt_set_le (List.set ([]++a0) ((cAt a0 a1).toNat) (⟨e4.A,iadd .i64 e3.Got a2,e4.Sent⟩:G.Credit):List G.Credit) ((cAt a0 a1).toNat) (⟨e9.A,1000000,e9.Sent⟩:G.Credit);(try simp only [N] at this)
     have:=wt_set_le ([]++a0) ((cAt a0 a1).toNat) (⟨e4.A,iadd .i64 e3.Got a2,e4.Sent⟩:G.Credit);(try simp only [N] at this);(try simp only [N]);omega
    ·(try simp only [B] at h4);refine hk8 _ ?_;(try have:=iadd_eq (a:=e3.Got) (b:=a2) (by omega) (by omega));have:=wt_set_le ([]++a0) ((cAt a0 a1).toNat) (⟨e4.A,iadd .i64 e3.Got a2,e4.Sent⟩:G.Credit);(try simp only [N] at this);(try simp only [N]);omega
 refine Ok.cond' (fun h5=>?_) (fun h5=>?_)
 ·exact hk2 _ trivial
 ·(try simp only [B] at h5);have f6:=creditsOk_f h5;(try simp only [N] at f6);refine Ok.cond' (fun h7=>?_) (fun h7=>?_)
  ·exact hk2 _ trivial
  ·exact hk2 _ trivial
theorem spec_RoomFor_t {a0:List G.Credit} {a1:G.Addr}:Ok (spec_RoomFor.raw a0 a1) fun r=>True:=by
 have hL:=LIM_is;have hc:=cAt_bd a0 a1;(try simp only [N] at hc);have hw:=wt_len a0;(try simp only [N] at hw)
 unfold spec_RoomFor.raw
 refine Ok.join (fun y1:Bool=>y1=false→0≤cAt a0 a1) (fun y1 hy1=>?_) (fun k2 hk2=>?_)
 ·refine Ok.cond' (fun h1=>?_) (fun h1=>?_)
  ·exact Ok.some' trivial
  ·replace hy1:=hy1 h1;(try simp only [N] at hy1);refine Ok.bind (Ok.idx ?_ ?_) (fun e3 he3=>?_)
   ·(try simp only [N]);omega
   ·(try simp only [N]);omega
   have he3w:=wt_at he3;(try simp only [N] at he3w);refine Ok.bind (Ok.idx ?_ ?_) (fun e4 he4=>?_)
   ·(try simp only [N]);omega
   ·(try simp only [N]);omega
   have he4w:=wt_at he4;(try simp only [N] at he4w);exact Ok.some' trivial
 refine Ok.cond' (fun h2=>?_) (fun h2=>?_)
 ·exact hk2 _ fun h=>nomatch h
 ·(try simp only [B] at h2);have f3:=creditsOk_f h2;(try simp only [N] at f3);refine hk2 _ fun q4=>?_;(try simp only [B] at q4);(try simp only [N]);omega
theorem spec_Spend_t {a0:List G.Credit} {a1:G.Addr} {a2:Int} (ha:wt a0≤1000000000):Ok (spec_Spend.raw a0 a1 a2) fun r=>wt r.1≤wt a0:=by
 (try simp only [N] at ha);have hL:=LIM_is;have hc:=cAt_bd a0 a1;(try simp only [N] at hc);have hw:=wt_len a0;(try simp only [N] at hw)
 unfold spec_Spend.raw
 refine Ok.guard ?_ ?_
 ·(try simp only [N]);omega
 refine Ok.join (fun y1:Bool=>y1=false→0≤cAt a0 a1) (fun y1 hy1=>?_) (fun k2 hk2=>?_)
 ·refine Ok.cond' (fun h1=>?_) (fun h1=>?_)
  ·refine Ok.some' ?_;(try simp only [N]);omega
  ·replace hy1:=hy1 h1;(try simp only [N] at hy1);refine Ok.chk ?_ ?_
   ·(try simp only [B,N]);omega
   refine Ok.bind (Ok.get ?_) (fun e4 he4=>?_)
   ·(try simp only [N]);omega
   have he4w:=wt_at he4;(try simp only [N] at he4w);refine Ok.chk ?_ ?_
   ·(try simp only [B,N]);omega
   refine Ok.bind (Ok.get ?_) (fun e5 he5=>?_)
   ·(try simp only [N]);omega
   have he5w:=wt_at he5;(try simp only [N] at he5w);refine Ok.some' ?_;(try have:=iadd_eq (a:=e4.Sent) (b:=a2) (by omega) (by omega));have:=wt_set_le ([]++a0) ((cAt a0 a1).toNat) (⟨e5.A,e5.Got,iadd .i64 e4.Sent a2⟩:G.Credit);(try simp only [N] at this);(try simp only);omega
 refine Ok.cond' (fun h2=>?_) (fun h2=>?_)
 ·exact hk2 _ fun h=>nomatch h
 ·(try simp only [B] at h2);refine Ok.cond' (fun h3=>?_) (fun h3=>?_)
  ·exact hk2 _ fun h=>nomatch h
  ·(try simp only [B] at h3);have f4:=creditsOk_f h3;(try simp only [N] at f4);refine Ok.bind (spec_RoomFor_t) (fun r3 hr3=>?_);refine hk2 _ fun q5=>?_;(try simp only [B] at q5);(try simp only [N]);omega
theorem spec_AtOf_t {a0:G.Tab} {a1:G.Addr} (ha:wt a0≤1000000000):Ok (spec_AtOf.raw a0 a1) fun r=>True:=by
 (try simp only [N] at ha);have hL:=LIM_is;have hw:=wt_len a0.L;(try simp only [N] at hw)
 unfold spec_AtOf.raw
 refine Ok.join (fun y1:Unit=>True) (fun y1 hy1=>?_) (fun k2 hk2=>?_)
 ·exact Ok.some' trivial
 refine Ok.loop (fun x3:Int=>0≤x3∧x3≤(a0.L.length:Int)) (fun x3:Int=>((a0.L.length:Int) - x3).toNat) (fun x3 hx3 k4 hk4=>?_) ?_ ?_
 ·(try simp only [N] at hx3);refine Ok.cond' (fun h1=>?_) (fun h1=>?_)
  ·(try simp only [B] at h1);refine Ok.join (fun y5:Bool=>True) (fun y5 hy5=>?_) (fun k6 hk6=>?_)
   ·refine Ok.cond' (fun h2=>?_) (fun h2=>?_)
    ·exact Ok.some' trivial
    ·refine hk4 _ ?_ ?_
     ·(try have:=iadd_eq (a:=x3) (b:=1) (by omega) (by omega));(try simp only [N]);omega
     ·(try have:=iadd_eq (a:=x3) (b:=1) (by omega) (by omega));(try simp only [N]);omega
   refine Ok.bind (Ok.idx ?_ ?_) (fun e7 he7=>?_)
   ·(try simp only [N]);omega
   ·(try simp only [N]);omega
   have he7w:=wt_at he7;(try simp only [N] at he7w);refine Ok.cond' (fun h3=>?_) (fun h3=>?_)
   ·(try simp only [B] at h3);refine Ok.bind (Ok.idx ?_ ?_) (fun e8 he8=>?_)
    ·(try simp only [N]);omega
    ·(try simp only [N]);omega
    have he8w:=wt_at he8;(try simp only [N] at he8w);exact hk6 _ trivial
   ·exact hk6 _ trivial
  ·exact hk2 _ trivial
 ·(try simp only [N]);omega
 ·(try simp only [N]);omega
theorem spec_MayAsk_t {a0:G.Server} {a1:G.Addr} {a2:Int} (ha:wt a0≤1000000000):Ok (spec_MayAsk.raw a0 a1 a2) fun r=>True:=by
 (try simp only [N] at ha);have hL:=LIM_is
 unfold spec_MayAsk.raw
 refine Ok.join (fun y1:Bool=>True) (fun y1 hy1=>?_) (fun k2 hk2=>?_)
 ·exact Ok.some' trivial
 refine Ok.bind (spec_AtOf_t ?_) (fun r3 hr3=>?_)
 ·(try simp only [N]);omega
 refine Ok.cond' (fun h1=>?_) (fun h1=>?_)
 ·exact hk2 _ trivial
 ·(try simp only [B] at h1);refine Ok.bind (spec_RoomFor_t) (fun r4 hr4=>?_);exact hk2 _ trivial
theorem spec_PutAddr_t {a0:List UInt8} {a1:G.Addr} (ha:wt a0≤1000000000):Ok (spec_PutAddr.raw a0 a1) fun r=>r.length≤a0.length+12:=by
 (try simp only [N] at ha);have hL:=LIM_is
 unfold spec_PutAddr.raw
 refine Ok.cond' (fun h1=>?_) (fun h1=>?_)
 ·(try simp only [B] at h1);refine Ok.guard ?_ ?_
  ·(try simp only [N]);omega
  refine Ok.some' ?_;(try simp only [N]);omega
 ·(try simp only [B] at h1);have f2:=addrOk_f h1;(try simp only [N] at f2);refine Ok.bind (putNO_t ?_) (fun r1 hr1=>?_)
  ·(try simp only [N]);omega
  (try simp only [N] at hr1);refine Ok.bind (putNO_t ?_) (fun r2 hr2=>?_)
  ·(try simp only [N]);omega
  (try simp only [N] at hr2);refine Ok.some' ?_;(try simp only [N]);omega
theorem spec_MintBody_t {a0:G.Addr} {a1:Int} {a2:List UInt8} {a3:List UInt8} {a4:Int} (ha:wt a2≤1000000000) (hb:wt a3≤1000000000):Ok (spec_MintBody.raw a0 a1 a2 a3 a4) fun r=>r.length≤60:=by
 (try simp only [N] at ha);(try simp only [N] at hb);have hL:=LIM_is
 unfold spec_MintBody.raw
 refine Ok.join (fun y1:Bool=>y1=false→a2.length=12∧a3.length=12) (fun y1 hy1=>?_) (fun k2 hk2=>?_)
 ·refine Ok.cond' (fun h1=>?_) (fun h1=>?_)
  ·refine Ok.some' ?_;(try simp only [N]);omega
  ·replace hy1:=hy1 h1;(try simp only [N] at hy1);refine Ok.bind (spec_PutAddr_t ?_) (fun r3 hr3=>?_)
   ·(try simp only [N]);omega
   (try simp only [N] at hr3);refine Ok.guard ?_ ?_
   ·(try simp only [N]);omega
   refine Ok.guard ?_ ?_
   ·(try simp only [N]);omega
   refine Ok.guard ?_ ?_
   ·(try simp only [N]);omega
   refine Ok.bind (putNO_t ?_) (fun r5 hr5=>?_)
   ·(try simp only [N]);omega
   (try simp only [N] at hr5);refine Ok.some' ?_;(try simp only [N]);omega
 refine Ok.cond' (fun h2=>?_) (fun h2=>?_)
 ·exact hk2 _ fun h=>nomatch h
 ·(try simp only [B] at h2);have f3:=addrOk_f h2;(try simp only [N] at f3);refine Ok.cond' (fun h4=>?_) (fun h4=>?_)
  ·exact hk2 _ fun h=>nomatch h
  ·(try simp only [B] at h4);refine Ok.cond' (fun h5=>?_) (fun h5=>?_)
   ·exact hk2 _ fun h=>nomatch h
   ·(try simp only [B] at h5);refine Ok.cond' (fun h6=>?_) (fun h6=>?_)
    ·exact hk2 _ fun h=>nomatch h
    ·(try simp only [B] at h6);refine hk2 _ fun q7=>?_;(try simp only [B] at q7);(try simp only [N]);omega
theorem spec_Mint_t {a0:G.Jar} {a1:G.Addr} {a2:Int} {a3:List UInt8} {a4:List UInt8} {a5:Int} (ha:wt a3≤1000000000) (hb:wt a4≤1000000000):Ok (spec_Mint.raw a0 a1 a2 a3 a4 a5) fun r=>r.length≤16:=by
 (try simp only [N] at ha);(try simp only [N] at hb);have hL:=LIM_is
 unfold spec_Mint.raw
 refine Ok.bind (spec_MintBody_t ?_ ?_) (fun r1 hr1=>?_)
 ·(try simp only [N]);omega
 ·(try simp only [N]);omega
 (try simp only [N] at hr1);refine Ok.join (fun y2:Bool=>True) (fun y2 hy2=>?_) (fun k3 hk3=>?_)
 ·refine Ok.cond' (fun h1=>?_) (fun h1=>?_)
  ·refine Ok.some' ?_;(try simp only [N]);omega
  ·refine Ok.bind (spec_Tag_t) (fun r4 hr4=>?_);(try simp only [N] at hr4);refine Ok.some' ?_;(try simp only [N]);omega
 refine Ok.cond' (fun h2=>?_) (fun h2=>?_)
 ·exact hk3 _ trivial
 ·exact hk3 _ trivial
theorem spec_Fresh_t {a0:Int} {a1:Int}:Ok (spec_Fresh.raw a0 a1) fun r=>True:=by
 have hL:=LIM_is
 unfold spec_Fresh.raw
 refine Ok.join (fun y1:Bool=>True) (fun y1 hy1=>?_) (fun k2 hk2=>?_)
 ·exact Ok.some' trivial
 refine Ok.cond' (fun h1=>?_) (fun h1=>?_)
 ·(try simp only [B] at h1);refine Ok.cond' (fun h2=>?_) (fun h2=>?_)
  ·exact hk2 _ trivial
  ·exact hk2 _ trivial
 ·exact hk2 _ trivial
theorem spec_Judge_t {a0:G.Jar} {a1:Int} {a2:G.Addr} {a3:G.Frame} (ha:wt a3≤1000000000):Ok (spec_Judge.raw a0 a1 a2 a3) fun r=>r=0→a3.Kind=3∧1≤a3.Id∧a3.Id≤9:=by
 (try simp only [N] at ha);have hL:=LIM_is
 unfold spec_Judge.raw
 refine Ok.join (fun y1:Bool=>y1=false→a3.Kind=3∧1≤a3.Id∧a3.Id≤9) (fun y1 hy1=>?_) (fun k2 hk2=>?_)
 ·refine Ok.cond' (fun h1=>?_) (fun h1=>?_)
  ·refine Ok.some' ?_;(try simp only [N]);omega
  ·replace hy1:=hy1 h1;(try simp only [N] at hy1);refine Ok.bind (spec_Fresh_t) (fun r3 hr3=>?_);refine Ok.cond' (fun h2=>?_) (fun h2=>?_)
   ·(try simp only [B] at h2);refine Ok.some' ?_;(try simp only [N]);omega
   ·(try simp only [B] at h2);refine Ok.bind (spec_Mint_t ?_ ?_) (fun r4 hr4=>?_)
    ·(try simp only [N]);omega
    ·(try simp only [N]);omega
    (try simp only [N] at hr4);refine Ok.bind (spec_SameTag_t ?_ ?_) (fun r5 hr5=>?_)
    ·(try simp only [N]);omega
    ·(try simp only [N]);omega
    refine Ok.cond' (fun h3=>?_) (fun h3=>?_)
    ·(try simp only [B] at h3);refine Ok.some' ?_;(try simp only [N]);omega
    ·(try simp only [B] at h3);refine Ok.some' ?_;(try simp only);omega
 refine Ok.cond' (fun h4=>?_) (fun h4=>?_)
 ·exact hk2 _ fun h=>nomatch h
 ·(try simp only [B] at h4);have f5:=jarOk_f h4;(try simp only [N] at f5);refine Ok.cond' (fun h6=>?_) (fun h6=>?_)
  ·exact hk2 _ fun h=>nomatch h
  ·(try simp only [B] at h6);refine Ok.cond' (fun h7=>?_) (fun h7=>?_)
   ·exact hk2 _ fun h=>nomatch h
   ·(try simp only [B] at h7);have f8:=addrOk_f h7;(try simp only [N] at f8);refine Ok.cond' (fun h9=>?_) (fun h9=>?_)
    ·exact hk2 _ fun h=>nomatch h
    ·(try simp only [B] at h9);have f10:=frameOk_f h9;(try simp only [N] at f10);refine hk2 _ fun q11=>?_;(try simp only [B] at q11);(try simp only [N]);omega
theorem spec_Extract_t {a0:List UInt8} {a1:List UInt8}:Ok (spec_Extract.raw a0 a1) fun r=>r.length≤32:=by
 have hL:=LIM_is;have hm:=hmac_le a0 a1;(try simp only [N] at hm)
 unfold spec_Extract.raw
 refine Ok.some' ?_;(try simp only [N]);omega
theorem spec_FinishKey_t {a0:List UInt8}:Ok (spec_FinishKey.raw a0) fun r=>r.length≤32:=by
 have hL:=LIM_is
 unfold spec_FinishKey.raw
 refine Ok.cond' (fun h1=>?_) (fun h1=>?_)
 ·(try simp only [B] at h1);refine Ok.some' ?_;(try simp only [N]);omega
 ·(try simp only [B] at h1);have f2:=pskOk_f h1;(try simp only [N] at f2);refine Ok.bind (spec_Extract_t) (fun r2 hr2=>?_);(try simp only [N] at hr2);refine Ok.bind (deriveO_t ?_) (fun r3 hr3=>?_)
  ·(try simp only [N]);omega
  (try simp only [N] at hr3);refine Ok.some' ?_;(try simp only [N]);omega
theorem spec_ProofBody_t {a0:Int} {a1:List UInt8} {a2:List UInt8} {a3:Int} {a4:List UInt8} (ha:wt a1≤1000000000) (hb:wt a2≤1000000000) (hc:wt a4≤1000000000):Ok (spec_ProofBody.raw a0 a1 a2 a3 a4) fun r=>r.length≤60:=by
 (try simp only [N] at ha);(try simp only [N] at hb);(try simp only [N] at hc);have hL:=LIM_is
 unfold spec_ProofBody.raw
 refine Ok.join (fun y1:Bool=>y1=false→a1.length=12∧a2.length=12∧a4.length=16) (fun y1 hy1=>?_) (fun k2 hk2=>?_)
 ·refine Ok.cond' (fun h1=>?_) (fun h1=>?_)
  ·refine Ok.some' ?_;(try simp only [N]);omega
  ·replace hy1:=hy1 h1;(try simp only [N] at hy1);refine Ok.guard ?_ ?_
   ·(try simp only [N]);omega
   refine Ok.guard ?_ ?_
   ·(try simp only [N]);omega
   refine Ok.bind (putNO_t ?_) (fun r4 hr4=>?_)
   ·(try simp only [N]);omega
   (try simp only [N] at hr4);refine Ok.guard ?_ ?_
   ·(try simp only [N]);omega
   refine Ok.some' ?_;(try simp only [N]);omega
 refine Ok.cond' (fun h2=>?_) (fun h2=>?_)
 ·exact hk2 _ fun h=>nomatch h
 ·(try simp only [B] at h2);refine Ok.cond' (fun h3=>?_) (fun h3=>?_)
  ·exact hk2 _ fun h=>nomatch h
  ·(try simp only [B] at h3);refine Ok.cond' (fun h4=>?_) (fun h4=>?_)
   ·exact hk2 _ fun h=>nomatch h
   ·(try simp only [B] at h4);refine Ok.cond' (fun h5=>?_) (fun h5=>?_)
    ·exact hk2 _ fun h=>nomatch h
    ·(try simp only [B] at h5);refine hk2 _ fun q6=>?_;(try simp only [B] at q6);(try simp only [N]);omega
theorem spec_Proof_t {a0:List UInt8} {a1:Int} {a2:List UInt8} {a3:List UInt8} {a4:Int} {a5:List UInt8} (ha:wt a2≤1000000000) (hb:wt a3≤1000000000) (hc:wt a5≤1000000000):Ok (spec_Proof.raw a0 a1 a2 a3 a4 a5) fun r=>r.length≤16:=by
 (try simp only [N] at ha);(try simp only [N] at hb);(try simp only [N] at hc);have hL:=LIM_is
 unfold spec_Proof.raw
 refine Ok.bind (spec_FinishKey_t) (fun r1 hr1=>?_);(try simp only [N] at hr1);refine Ok.bind (spec_ProofBody_t ?_ ?_ ?_) (fun r2 hr2=>?_)
 ·(try simp only [N]);omega
 ·(try simp only [N]);omega
 ·(try simp only [N]);omega
 (try simp only [N] at hr2);refine Ok.join (fun y3:Bool=>True) (fun y3 hy3=>?_) (fun k4 hk4=>?_)
 ·refine Ok.cond' (fun h1=>?_) (fun h1=>?_)
  ·refine Ok.some' ?_;(try simp only [N]);omega
  ·refine Ok.bind (spec_Tag_t) (fun r5 hr5=>?_);(try simp only [N] at hr5);refine Ok.some' ?_;(try simp only [N]);omega
 refine Ok.cond' (fun h2=>?_) (fun h2=>?_)
 ·exact hk4 _ trivial
 ·exact hk4 _ trivial
theorem spec_ProofOk_t {a0:List UInt8} {a1:G.Frame} (ha:wt a1≤1000000000):Ok (spec_ProofOk.raw a0 a1) fun r=>True:=by
 (try simp only [N] at ha);have hL:=LIM_is
 unfold spec_ProofOk.raw
 refine Ok.join (fun y1:Bool=>True) (fun y1 hy1=>?_) (fun k2 hk2=>?_)
 ·exact Ok.some' trivial
 refine Ok.cond' (fun h1=>?_) (fun h1=>?_)
 ·(try simp only [B] at h1);have f2:=frameOk_f h1;(try simp only [N] at f2);refine Ok.cond' (fun h3=>?_) (fun h3=>?_)
  ·(try simp only [B] at h3);refine Ok.bind (spec_Proof_t ?_ ?_ ?_) (fun r3 hr3=>?_)
   ·(try simp only [N]);omega
   ·(try simp only [N]);omega
   ·(try simp only [N]);omega
   (try simp only [N] at hr3);refine Ok.bind (spec_SameTag_t ?_ ?_) (fun r4 hr4=>?_)
   ·(try simp only [N]);omega
   ·(try simp only [N]);omega
   exact hk2 _ trivial
  ·exact hk2 _ trivial
 ·exact hk2 _ trivial
theorem spec_RootKey_t {a0:List UInt8} {a1:List UInt8} {a2:List UInt8} (ha:wt a1≤1000000000) (hb:wt a2≤1000000000):Ok (spec_RootKey.raw a0 a1 a2) fun r=>r.length≤32:=by
 (try simp only [N] at ha);(try simp only [N] at hb);have hL:=LIM_is
 unfold spec_RootKey.raw
 refine Ok.join (fun y1:Bool=>y1=false→a1.length=12∧a2.length=12) (fun y1 hy1=>?_) (fun k2 hk2=>?_)
 ·refine Ok.cond' (fun h1=>?_) (fun h1=>?_)
  ·refine Ok.some' ?_;(try simp only [N]);omega
  ·replace hy1:=hy1 h1;(try simp only [N] at hy1);refine Ok.guard ?_ ?_
   ·(try simp only [N]);omega
   refine Ok.guard ?_ ?_
   ·(try simp only [N]);omega
   refine Ok.bind (spec_Extract_t) (fun r3 hr3=>?_);(try simp only [N] at hr3);refine Ok.some' ?_;(try simp only [N]);omega
 refine Ok.cond' (fun h2=>?_) (fun h2=>?_)
 ·exact hk2 _ fun h=>nomatch h
 ·(try simp only [B] at h2);have f3:=pskOk_f h2;(try simp only [N] at f3);refine Ok.cond' (fun h4=>?_) (fun h4=>?_)
  ·exact hk2 _ fun h=>nomatch h
  ·(try simp only [B] at h4);refine hk2 _ fun q5=>?_;(try simp only [B] at q5);(try simp only [N]);omega
theorem spec_FirstKey_t {a0:List UInt8}:Ok (spec_FirstKey.raw a0) fun r=>r.length≤32:=by
 have hL:=LIM_is
 unfold spec_FirstKey.raw
 refine Ok.cond' (fun h1=>?_) (fun h1=>?_)
 ·(try simp only [B] at h1);refine Ok.some' ?_;(try simp only [N]);omega
 ·(try simp only [B] at h1);refine Ok.bind (deriveO_t ?_) (fun r1 hr1=>?_)
  ·(try simp only [N]);omega
  (try simp only [N] at hr1);refine Ok.some' ?_;(try simp only [N]);omega
theorem spec_Chain_t {a0:List UInt8} {a1:Int} (ha:wt a0≤1000000000):Ok (spec_Chain.raw a0 a1) fun r=>r.length≤a0.length+32:=by
 (try simp only [N] at ha);have hL:=LIM_is
 unfold spec_Chain.raw
 refine Ok.cond' (fun h1=>?_) (fun h1=>?_)
 ·(try simp only [B] at h1);refine Ok.some' ?_;(try simp only [N]);omega
 ·(try simp only [B] at h1);refine Ok.guard ?_ ?_
  ·(try simp only [N]);omega
  refine Ok.join (fun y1:(List UInt8)=>y1.length≤a0.length+32) (fun y1 hy1=>?_) (fun k2 hk2=>?_)
  ·(try simp only [N] at hy1);refine Ok.some' ?_;(try simp only [N]);omega
  refine Ok.loop (fun x3:(List UInt8) × Int=>0≤x3.2∧x3.2≤64∧x3.1.length≤a0.length+32) (fun x3:(List UInt8) × Int=>(64 - x3.2).toNat) (fun x3 hx3 k4 hk4=>?_) ?_ ?_
  ·(try simp only [N] at hx3);refine Ok.cond' (fun h2=>?_) (fun h2=>?_)
   ·(try simp only [B] at h2);refine Ok.bind (deriveO_t ?_) (fun r5 hr5=>?_)
    ·(try simp only [N]);omega
    (try simp only [N] at hr5);refine hk4 _ ?_ ?_
    ·(try have:=iadd_eq (a:=x3.2) (b:=1) (by omega) (by omega));(try simp only);omega
    ·(try have:=iadd_eq (a:=x3.2) (b:=1) (by omega) (by omega));(try simp only);omega
   ·(try simp only [B] at h2);refine hk2 _ ?_;(try simp only [N]);omega
  ·(try simp only [N]);omega
  ·(try simp only);omega
theorem spec_EpochKey_t {a0:List UInt8} {a1:List UInt8} {a2:List UInt8} {a3:Int} (ha:wt a1≤1000000000) (hb:wt a2≤1000000000):Ok (spec_EpochKey.raw a0 a1 a2 a3) fun r=>r.length≤64:=by
 (try simp only [N] at ha);(try simp only [N] at hb);have hL:=LIM_is
 unfold spec_EpochKey.raw
 refine Ok.bind (spec_RootKey_t ?_ ?_) (fun r1 hr1=>?_)
 ·(try simp only [N]);omega
 ·(try simp only [N]);omega
 (try simp only [N] at hr1);refine Ok.bind (spec_FirstKey_t) (fun r2 hr2=>?_);(try simp only [N] at hr2);refine Ok.cond' (fun h1=>?_) (fun h1=>?_)
 ·(try simp only [B] at h1);refine Ok.some' ?_;(try simp only [N]);omega
 ·(try simp only [B] at h1);refine Ok.bind (spec_Chain_t ?_) (fun r3 hr3=>?_)
  ·(try simp only [N]);omega
  (try simp only [N] at hr3);refine Ok.some' ?_;(try simp only [N]);omega
theorem spec_FinishOf_t {a0:List UInt8} {a1:Int} {a2:G.Frame} (ha:wt a2≤1000000000):Ok (spec_FinishOf.raw a0 a1 a2) fun r=>wt r.1≤200:=by
 (try simp only [N] at ha);have hL:=LIM_is
 unfold spec_FinishOf.raw
 refine Ok.join (fun y1:Bool=>y1=false→wt a2≤112) (fun y1 hy1=>?_) (fun k2 hk2=>?_)
 ·refine Ok.cond' (fun h1=>?_) (fun h1=>?_)
  ·refine Ok.some' ?_;(try simp only [N]);omega
  ·replace hy1:=hy1 h1;(try simp only [N] at hy1);refine Ok.bind (spec_Proof_t ?_ ?_ ?_) (fun r3 hr3=>?_)
   ·(try simp only [N]);omega
   ·(try simp only [N]);omega
   ·(try simp only [N]);omega
   (try simp only [N] at hr3);refine Ok.cond' (fun h2=>?_) (fun h2=>?_)
   ·(try simp only [B] at h2);refine Ok.some' ?_;(try simp only [N]);omega
   ·(try simp only [B] at h2);refine Ok.same (pt_some ?_) ?_
    ·(try simp only [N]);omega
    refine Ok.some' ?_;(try simp only [N]);omega
 refine Ok.cond' (fun h3=>?_) (fun h3=>?_)
 ·exact hk2 _ fun h=>nomatch h
 ·(try simp only [B] at h3);have f4:=frameOk_f h3;(try simp only [N] at f4);refine hk2 _ fun q5=>?_;(try simp only [B] at q5);(try simp only [N]);omega
end Go.D
namespace Go.D
theorem spec_TimerSet_t {a0:Int}:Ok (spec_TimerSet.raw a0) fun r=>True:=by
 have hL:=LIM_is
 unfold spec_TimerSet.raw
 refine Ok.cond' (fun h1=>?_) (fun h1=>?_)
 ·(try simp only [B] at h1);exact Ok.some' trivial
 ·(try simp only [B] at h1);exact Ok.some' trivial
theorem spec_TimerFires_t {a0:G.Timer} {a1:Int}:Ok (spec_TimerFires.raw a0 a1) fun r=>True:=by
 have hL:=LIM_is
 unfold spec_TimerFires.raw
 refine Ok.join (fun y1:Bool=>True) (fun y1 hy1=>?_) (fun k2 hk2=>?_)
 ·exact Ok.some' trivial
 refine Ok.cond' (fun h1=>?_) (fun h1=>?_)
 ·(try simp only [B] at h1);refine Ok.cond' (fun h2=>?_) (fun h2=>?_)
  ·(try simp only [B] at h2);refine Ok.cond' (fun h3=>?_) (fun h3=>?_)
   ·exact hk2 _ trivial
   ·exact hk2 _ trivial
  ·exact hk2 _ trivial
 ·exact hk2 _ trivial
theorem spec_TimerNext_t {a0:G.Timer} {a1:Int}:Ok (spec_TimerNext.raw a0 a1) fun r=>True:=by
 have hL:=LIM_is
 unfold spec_TimerNext.raw
 refine Ok.bind (spec_TimerFires_t) (fun r1 hr1=>?_);refine Ok.cond' (fun h1=>?_) (fun h1=>?_)
 ·(try simp only [B] at h1);exact Ok.some' trivial
 ·(try simp only [B] at h1);refine Ok.cond' (fun h2=>?_) (fun h2=>?_)
  ·(try simp only [B] at h2);exact Ok.some' trivial
  ·(try simp only [B] at h2);refine Ok.join (fun y2:Int=>True) (fun y2 hy2=>?_) (fun k3 hk3=>?_)
   ·exact Ok.some' trivial
   refine Ok.cond' (fun h3=>?_) (fun h3=>?_)
   ·exact hk3 _ trivial
   ·exact hk3 _ trivial
theorem spec_l19Init_t {a0:G.Client} (ha:wt a0≤1000000000):Ok (spec_l19Init.raw a0) fun r=>wt r≤a0.Cn.length:=by
 (try simp only [N] at ha);have hL:=LIM_is
 unfold spec_l19Init.raw
 refine Ok.guard ?_ ?_
 ·(try simp only [N]);omega
 refine Ok.some' ?_;(try simp only [N]);omega
theorem spec_l19Idle_t {a0:G.Client} (ha:wt a0≤1000000000) (hb:1≤a0.Id∧a0.Id≤9∧1≤a0.Psk.length∧a0.Psk.length≤32∧0≤a0.At.Host∧a0.At.Host≤4294967295∧0≤a0.At.Port∧a0.At.Port≤65535):Ok (spec_l19Idle.raw a0) fun r=>wt r≤wt a0∧r.Id=a0.Id:=by
 (try simp only [N] at ha);(try simp only [N] at hb);have hL:=LIM_is
 unfold spec_l19Idle.raw
 refine Ok.bind (clientNewO_t ?_ ?_ ?_ ?_) (fun r1 hr1=>?_)
 ·(try simp only [N]);omega
 ·(try simp only [N]);omega
 ·(try simp only [N]);omega
 ·(try simp only [N]);omega
 (try simp only [N] at hr1);refine Ok.some' ?_;(try simp only [N]);omega
theorem spec_Dial_t {a0:G.Client} {a1:Int} {a2:List UInt8} (ha:wt a0≤1000000000) (hb:wt a2≤1000000000):Ok (spec_Dial.raw a0 a1 a2) fun r=>wt r.1≤wt a0+12∧r.1.Id=a0.Id∧r.2.1.length≤1∧wt r.2.1≤400∧wt r.2.2.1≤2000:=by
 (try simp only [N] at ha);(try simp only [N] at hb);have hL:=LIM_is
 unfold spec_Dial.raw
 refine Ok.same (pt_some ?_) ?_
 ·(try simp only [N]);omega
 refine Ok.join (fun y2:Bool=>y2=false→CF a0∧a2.length=12) (fun y2 hy2=>?_) (fun k3 hk3=>?_)
 ·refine Ok.cond' (fun h1=>?_) (fun h1=>?_)
  ·refine Ok.some' ?_;(try simp only [N]);omega
  ·replace hy2:=hy2 h1;(try simp only [N] at hy2);refine Ok.cond' (fun h2=>?_) (fun h2=>?_)
   ·(try simp only [B] at h2);refine Ok.some' ?_;(try simp only [N]);omega
   ·(try simp only [B] at h2);refine Ok.guard ?_ ?_
    ·(try simp only [N]);omega
    refine Ok.bind (spec_TimerSet_t) (fun r5 hr5=>?_);refine Ok.guard ?_ ?_
    ·(try simp only [N]);omega
    refine Ok.bind (spec_l19Init_t ?_) (fun r6 hr6=>?_)
    ·(try simp only [N]);omega
    (try simp only [N] at hr6);refine Ok.some' ?_;(try simp only [N]);omega
 refine Ok.bind (clientOkO_t ?_) (fun r4 hr4=>?_)
 ·(try simp only [N]);omega
 refine Ok.cond' (fun h3=>?_) (fun h3=>?_)
 ·exact hk3 _ fun h=>nomatch h
 ·(try simp only [B] at h3);replace hr4:=hr4 h3;(try simp only [N] at hr4);refine Ok.cond' (fun h4=>?_) (fun h4=>?_)
  ·exact hk3 _ fun h=>nomatch h
  ·(try simp only [B] at h4);refine hk3 _ fun q5=>?_;(try simp only [B] at q5);(try simp only [N]);omega
theorem spec_ClientSend_t {a0:G.Client} {a1:Int} {a2:List UInt8} (ha:wt a0≤1000000000) (hb:wt a2≤1000000000):Ok (spec_ClientSend.raw a0 a1 a2) fun r=>wt r.1≤wt a0∧r.1.Id=a0.Id∧r.2.1.length≤1∧wt r.2.1≤400∧wt r.2.2.1≤2000:=by
 (try simp only [N] at ha);(try simp only [N] at hb);have hL:=LIM_is
 unfold spec_ClientSend.raw
 refine Ok.same (pt_some ?_) ?_
 ·(try simp only [N]);omega
 refine Ok.join (fun y2:Bool=>y2=false→CF a0∧a2.length≤40) (fun y2 hy2=>?_) (fun k3 hk3=>?_)
 ·refine Ok.cond' (fun h1=>?_) (fun h1=>?_)
  ·refine Ok.some' ?_;(try simp only [N]);omega
  ·replace hy2:=hy2 h1;(try simp only [N] at hy2);refine Ok.cond' (fun h2=>?_) (fun h2=>?_)
   ·(try simp only [B] at h2);refine Ok.some' ?_;(try simp only [N]);omega
   ·(try simp only [B] at h2);refine Ok.bind (spec_ChanSeal_t ?_ ?_) (fun r5 hr5=>?_)
    ·(try simp only [N]);omega
    ·(try simp only [N]);omega
    (try simp only [N] at hr5);refine Ok.cond' (fun h3=>?_) (fun h3=>?_)
    ·(try simp only [B] at h3);refine Ok.some' ?_;(try simp only [N]);omega
    ·(try simp only [B] at h3);refine Ok.guard ?_ ?_
     ·(try simp only [N]);omega
     refine Ok.guard ?_ ?_
     ·(try simp only [N]);omega
     refine Ok.bind (spec_l19Made_t ?_ ?_) (fun r6 hr6=>?_)
     ·(try simp only [N]);omega
     ·(try simp only [N]);omega
     (try simp only [N] at hr6);refine Ok.some' ?_;(try simp only [N]);omega
 refine Ok.bind (clientOkO_t ?_) (fun r4 hr4=>?_)
 ·(try simp only [N]);omega
 refine Ok.cond' (fun h4=>?_) (fun h4=>?_)
 ·exact hk3 _ fun h=>nomatch h
 ·(try simp only [B] at h4);replace hr4:=hr4 h4;(try simp only [N] at hr4);refine Ok.cond' (fun h5=>?_) (fun h5=>?_)
  ·exact hk3 _ fun h=>nomatch h
  ·(try simp only [B] at h5);refine hk3 _ fun q6=>?_;(try simp only [B] at q6);(try simp only [N]);omega
theorem spec_ClientRekey_t {a0:G.Client} {a1:Int} (ha:wt a0≤1000000000):Ok (spec_ClientRekey.raw a0 a1) fun r=>wt r.1≤wt a0+32∧r.1.Id=a0.Id∧r.2.1.length≤1∧wt r.2.1≤400∧wt r.2.2.1≤2000:=by
 (try simp only [N] at ha);have hL:=LIM_is
 unfold spec_ClientRekey.raw
 refine Ok.same (pt_some ?_) ?_
 ·(try simp only [N]);omega
 refine Ok.join (fun y2:Bool=>y2=false→CF a0) (fun y2 hy2=>?_) (fun k3 hk3=>?_)
 ·refine Ok.cond' (fun h1=>?_) (fun h1=>?_)
  ·refine Ok.some' ?_;(try simp only [N]);omega
  ·replace hy2:=hy2 h1;(try simp only [N] at hy2);refine Ok.join (fun y5:Bool=>True) (fun y5 hy5=>?_) (fun k6 hk6=>?_)
   ·refine Ok.cond' (fun h2=>?_) (fun h2=>?_)
    ·refine Ok.some' ?_;(try simp only [N]);omega
    ·refine Ok.bind (spec_Want_t ?_) (fun r7 hr7=>?_)
     ·(try simp only [N]);omega
     (try simp only [N] at hr7);refine Ok.bind (spec_AskRekey_t ?_) (fun r8 hr8=>?_)
     ·(try simp only [N]);omega
     (try simp only [N] at hr8);refine Ok.join (fun y9:Bool=>True) (fun y9 hy9=>?_) (fun k10 hk10=>?_)
     ·refine Ok.cond' (fun h3=>?_) (fun h3=>?_)
      ·refine Ok.some' ?_;(try simp only [N]);omega
      ·refine Ok.bind (spec_TimerSet_t) (fun r11 hr11=>?_);refine Ok.bind (spec_l19Made_t ?_ ?_) (fun r12 hr12=>?_)
       ·(try simp only [N]);omega
       ·(try simp only [N]);omega
       (try simp only [N] at hr12);refine Ok.some' ?_;(try simp only [N]);omega
     refine Ok.cond' (fun h4=>?_) (fun h4=>?_)
     ·exact hk10 _ trivial
     ·exact hk10 _ trivial
   refine Ok.cond' (fun h5=>?_) (fun h5=>?_)
   ·exact hk6 _ trivial
   ·exact hk6 _ trivial
 refine Ok.bind (clientOkO_t ?_) (fun r4 hr4=>?_)
 ·(try simp only [N]);omega
 refine Ok.cond' (fun h6=>?_) (fun h6=>?_)
 ·exact hk3 _ fun h=>nomatch h
 ·(try simp only [B] at h6);replace hr4:=hr4 h6;(try simp only [N] at hr4);refine hk3 _ fun q7=>?_;(try simp only [B] at q7);(try simp only [N]);omega
theorem spec_ClientTick_t {a0:G.Client} {a1:Int} (ha:wt a0≤1000000000):Ok (spec_ClientTick.raw a0 a1) fun r=>wt r.1≤wt a0∧r.1.Id=a0.Id∧r.2.1.length≤2∧wt r.2.1≤900∧wt r.2.2≤2000:=by
 (try simp only [N] at ha);have hL:=LIM_is
 unfold spec_ClientTick.raw
 refine Ok.same (pt_some ?_) ?_
 ·(try simp only [N]);omega
 refine Ok.join (fun y2:Bool=>y2=false→CF a0) (fun y2 hy2=>?_) (fun k3 hk3=>?_)
 ·refine Ok.cond' (fun h1=>?_) (fun h1=>?_)
  ·refine Ok.some' ?_;(try simp only [N]);omega
  ·replace hy2:=hy2 h1;(try simp only [N] at hy2);refine Ok.cond' (fun h2=>?_) (fun h2=>?_)
   ·(try simp only [B] at h2);refine Ok.bind (spec_TimerNext_t) (fun r5 hr5=>?_);refine Ok.cond' (fun h3=>?_) (fun h3=>?_)
    ·(try simp only [B] at h3);refine Ok.bind (spec_l19Idle_t ?_ ?_) (fun r6 hr6=>?_)
     ·(try simp only [N]);omega
     ·(try simp only [N]);omega
     (try simp only [N] at hr6);refine Ok.guard ?_ ?_
     ·(try simp only [N]);omega
     refine Ok.guard ?_ ?_
     ·(try simp only [N]);omega
     refine Ok.some' ?_;(try simp only [N]);omega
    ·(try simp only [B] at h3);refine Ok.join (fun y8:Bool=>True) (fun y8 hy8=>?_) (fun k9 hk9=>?_)
     ·refine Ok.join (fun y10:(List G.Frame)=>y10.length≤1∧wt y10≤400) (fun y10 hy10=>?_) (fun k11 hk11=>?_)
      ·(try simp only [N] at hy10);refine Ok.join (fun y13:Bool=>True) (fun y13 hy13=>?_) (fun k14 hk14=>?_)
       ·refine Ok.join (fun y15:(List G.Frame)=>y15.length≤2∧wt y15≤900) (fun y15 hy15=>?_) (fun k16 hk16=>?_)
        ·(try simp only [N] at hy15);refine Ok.some' ?_;(try simp only [N]);omega
        refine Ok.cond' (fun h4=>?_) (fun h4=>?_)
        ·refine Ok.same (pt_some ?_) ?_
         ·(try simp only [N]);omega
         refine Ok.guard ?_ ?_
         ·(try simp only [N]);omega
         refine hk16 _ ?_;(try simp only [N]);omega
        ·refine hk16 _ ?_;(try simp only [N]);omega
       refine Ok.cond' (fun h5=>?_) (fun h5=>?_)
       ·exact hk14 _ trivial
       ·exact hk14 _ trivial
      refine Ok.cond' (fun h6=>?_) (fun h6=>?_)
      ·refine Ok.bind (spec_l19Init_t ?_) (fun r12 hr12=>?_)
       ·(try simp only [N]);omega
       (try simp only [N] at hr12);refine Ok.guard ?_ ?_
       ·(try simp only [N]);omega
       refine hk11 _ ?_;(try simp only [N]);omega
      ·refine hk11 _ ?_;(try simp only [N]);omega
     refine Ok.cond' (fun h7=>?_) (fun h7=>?_)
     ·exact hk9 _ trivial
     ·exact hk9 _ trivial
   ·(try simp only [B] at h2);refine Ok.cond' (fun h8=>?_) (fun h8=>?_)
    ·(try simp only [B] at h8);(try have:=isub_eq (a:=a1) (b:=a0.Last) (by omega) (by omega));refine Ok.bind (spec_l19Idle_t ?_ ?_) (fun r18 hr18=>?_)
     ·(try simp only [N]);omega
     ·(try simp only [N]);omega
     (try simp only [N] at hr18);refine Ok.guard ?_ ?_
     ·(try simp only [N]);omega
     refine Ok.guard ?_ ?_
     ·(try simp only [N]);omega
     refine Ok.some' ?_;(try simp only [N]);omega
    ·(try simp only [B] at h8);(try have:=isub_eq (a:=a1) (b:=a0.Last) (by omega) (by omega));refine Ok.bind (spec_ChanTick_t ?_) (fun r20 hr20=>?_)
     ·(try simp only [N]);omega
     (try simp only [N] at hr20);refine Ok.bind (spec_TimerNext_t) (fun r21 hr21=>?_);refine Ok.cond' (fun h9=>?_) (fun h9=>?_)
     ·(try simp only [B] at h9);refine Ok.some' ?_;(try simp only [N]);omega
     ·(try simp only [B] at h9);refine Ok.join (fun y22:G.Client=>wt y22≤wt a0∧y22.Id=a0.Id) (fun y22 hy22=>?_) (fun k23 hk23=>?_)
      ·(try simp only [N] at hy22);refine Ok.bind (spec_AskRekey_t ?_) (fun r25 hr25=>?_)
       ·(try simp only [N]);omega
       (try simp only [N] at hr25);refine Ok.join (fun y26:(List G.Frame) × (List G.Note) × G.Client=>y26.1.length≤1∧wt y26.1≤400∧wt y26.2.1≤2000∧wt y26.2.2≤wt a0∧y26.2.2.Id=a0.Id) (fun y26 hy26=>?_) (fun k27 hk27=>?_)
       ·(try simp only [N] at hy26);refine Ok.some' ?_;(try simp only [N]);omega
       refine Ok.cond' (fun h10=>?_) (fun h10=>?_)
       ·(try simp only [B] at h10);refine Ok.guard ?_ ?_
        ·(try simp only [N]);omega
        refine Ok.bind (spec_l19Made_t ?_ ?_) (fun r28 hr28=>?_)
        ·(try simp only [N]);omega
        ·(try simp only [N]);omega
        (try simp only [N] at hr28);refine Ok.guard ?_ ?_
        ·(try simp only [N]);omega
        refine hk27 _ ?_;(try simp only [N]);omega
       ·(try simp only [B] at h10);refine hk27 _ ?_;(try simp only [N]);omega
      refine Ok.cond' (fun h11=>?_) (fun h11=>?_)
      ·(try simp only [B] at h11);refine Ok.bind (spec_TimerSet_t) (fun r24 hr24=>?_);refine hk23 _ ?_;(try simp only [N]);omega
      ·(try simp only [B] at h11);refine hk23 _ ?_;(try simp only [N]);omega
 refine Ok.bind (clientOkO_t ?_) (fun r4 hr4=>?_)
 ·(try simp only [N]);omega
 refine Ok.cond' (fun h12=>?_) (fun h12=>?_)
 ·exact hk3 _ fun h=>nomatch h
 ·(try simp only [B] at h12);replace hr4:=hr4 h12;(try simp only [N] at hr4);refine Ok.cond' (fun h13=>?_) (fun h13=>?_)
  ·exact hk3 _ fun h=>nomatch h
  ·(try simp only [B] at h13);refine hk3 _ fun q14=>?_;(try simp only [B] at q14);(try simp only [N]);omega
theorem spec_Roam_t {a0:G.Client} {a1:G.Addr} (ha:wt a0≤1000000000):Ok (spec_Roam.raw a0 a1) fun r=>wt r≤wt a0∧r.Id=a0.Id:=by
 (try simp only [N] at ha);have hL:=LIM_is
 unfold spec_Roam.raw
 refine Ok.same (pt_some ?_) ?_
 ·(try simp only [N]);omega
 refine Ok.join (fun y2:Bool=>True) (fun y2 hy2=>?_) (fun k3 hk3=>?_)
 ·refine Ok.join (fun y5:G.Client=>wt y5≤wt a0∧y5.Id=a0.Id) (fun y5 hy5=>?_) (fun k6 hk6=>?_)
  ·(try simp only [N] at hy5);refine Ok.some' ?_;(try simp only [N]);omega
  refine Ok.cond' (fun h1=>?_) (fun h1=>?_)
  ·refine hk6 _ ?_;(try simp only [N]);omega
  ·refine hk6 _ ?_;(try simp only [N]);omega
 refine Ok.bind (clientOkO_t ?_) (fun r4 hr4=>?_)
 ·(try simp only [N]);omega
 refine Ok.cond' (fun h2=>?_) (fun h2=>?_)
 ·exact hk3 _ trivial
 ·exact hk3 _ trivial
theorem spec_Hang_t {a0:G.Client} (ha:wt a0≤1000000000):Ok (spec_Hang.raw a0) fun r=>wt r.1≤wt a0∧r.1.Id=a0.Id∧wt r.2≤500:=by
 (try simp only [N] at ha);have hL:=LIM_is
 unfold spec_Hang.raw
 refine Ok.bind (clientOkO_t ?_) (fun r1 hr1=>?_)
 ·(try simp only [N]);omega
 refine Ok.cond' (fun h1=>?_) (fun h1=>?_)
 ·(try simp only [B] at h1);refine Ok.same (pt_some ?_) ?_
  ·(try simp only [N]);omega
  refine Ok.some' ?_;(try simp only [N]);omega
 ·(try simp only [B] at h1);replace hr1:=hr1 h1;(try simp only [N] at hr1);refine Ok.cond' (fun h2=>?_) (fun h2=>?_)
  ·(try simp only [B] at h2);refine Ok.bind (spec_l19Idle_t ?_ ?_) (fun r3 hr3=>?_)
   ·(try simp only [N]);omega
   ·(try simp only [N]);omega
   (try simp only [N] at hr3);refine Ok.guard ?_ ?_
   ·(try simp only [N]);omega
   refine Ok.some' ?_;(try simp only [N]);omega
  ·(try simp only [B] at h2);refine Ok.bind (spec_l19Idle_t ?_ ?_) (fun r5 hr5=>?_)
   ·(try simp only [N]);omega
   ·(try simp only [N]);omega
   (try simp only [N] at hr5);refine Ok.some' ?_;(try simp only [N]);omega
theorem spec_ClientHear_t {a0:G.Client} {a1:Int} {a2:G.Frame} (ha:wt a0≤1000000000) (hb:wt a2≤1000000000):Ok (spec_ClientHear.raw a0 a1 a2) fun r=>wt r.1≤wt a0+2000∧r.1.Id=a0.Id∧r.2.1.length≤1∧wt r.2.1≤400∧wt r.2.2≤8000:=by
 (try simp only [N] at ha);(try simp only [N] at hb);have hL:=LIM_is
 unfold spec_ClientHear.raw
 refine Ok.same (pt_some ?_) ?_
 ·(try simp only [N]);omega
 refine Ok.join (fun y2:Bool=>y2=false→CF a0∧wt a2≤112) (fun y2 hy2=>?_) (fun k3 hk3=>?_)
 ·refine Ok.cond' (fun h1=>?_) (fun h1=>?_)
  ·refine Ok.some' ?_;(try simp only [N]);omega
  ·replace hy2:=hy2 h1;(try simp only [N] at hy2);refine Ok.join (fun y5:Bool=>True) (fun y5 hy5=>?_) (fun k6 hk6=>?_)
   ·refine Ok.cond' (fun h2=>?_) (fun h2=>?_)
    ·refine Ok.bind (spec_FinishOf_t ?_) (fun r8 hr8=>?_)
     ·(try simp only [N]);omega
     (try simp only [N] at hr8);refine Ok.bind (spec_EpochKey_t ?_ ?_) (fun r9 hr9=>?_)
     ·(try simp only [N]);omega
     ·(try simp only [N]);omega
     (try simp only [N] at hr9);refine Ok.bind (spec_ChanNew_t ?_ ?_) (fun r10 hr10=>?_)
     ·(try simp only [N]);omega
     ·(try simp only [N]);omega
     (try simp only [N] at hr10);refine Ok.bind (spec_TimerSet_t) (fun r11 hr11=>?_);refine Ok.guard ?_ ?_
     ·(try simp only [N]);omega
     refine Ok.guard ?_ ?_
     ·(try simp only [N]);omega
     refine Ok.guard ?_ ?_
     ·(try simp only [N]);omega
     refine Ok.bind (spec_FinishKey_t) (fun r13 hr13=>?_);(try simp only [N] at hr13);refine Ok.bind (spec_ProofBody_t ?_ ?_ ?_) (fun r14 hr14=>?_)
     ·(try simp only [N]);omega
     ·(try simp only [N]);omega
     ·(try simp only [N]);omega
     (try simp only [N] at hr14);refine Ok.bind (spec_Made_t ?_ ?_) (fun r15 hr15=>?_)
     ·(try simp only [N]);omega
     ·(try simp only [N]);omega
     (try simp only [N] at hr15);refine Ok.guard ?_ ?_
     ·(try simp only [N]);omega
     refine Ok.same (pt_some ?_) ?_
     ·(try simp only [N]);omega
     refine Ok.guard ?_ ?_
     ·(try simp only [N]);omega
     refine Ok.some' ?_;(try simp only [N]);omega
    ·refine Ok.join (fun y17:Bool=>True) (fun y17 hy17=>?_) (fun k18 hk18=>?_)
     ·refine Ok.cond' (fun h3=>?_) (fun h3=>?_)
      ·refine Ok.some' ?_;(try simp only [N]);omega
      ·refine Ok.bind (spec_ChanOpen_t ?_ ?_) (fun r19 hr19=>?_)
       ·(try simp only [N]);omega
       ·(try simp only [N]);omega
       (try simp only [N] at hr19);refine Ok.cond' (fun h4=>?_) (fun h4=>?_)
       ·(try simp only [B] at h4);refine Ok.some' ?_;(try simp only [N]);omega
       ·(try simp only [B] at h4);refine Ok.bind (spec_KeyFor_t ?_) (fun r20 hr20=>?_)
        ·(try simp only [N]);omega
        (try simp only [N] at hr20);refine Ok.bind (spec_TagInput_t ?_) (fun r21 hr21=>?_)
        ·(try simp only [N]);omega
        (try simp only [N] at hr21);refine Ok.bind (spec_Took_t ?_ ?_ ?_) (fun r22 hr22=>?_)
        ·(try simp only [N]);omega
        ·(try simp only [N]);omega
        ·(try simp only [N]);omega
        (try simp only [N] at hr22);refine Ok.guard ?_ ?_
        ·(try simp only [N]);omega
        refine Ok.join (fun y23:(List G.Note) × G.Client=>wt y23.1≤2000∧wt y23.2≤wt a0+1000∧y23.2.Id=a0.Id) (fun y23 hy23=>?_) (fun k24 hk24=>?_)
        ·(try simp only [N] at hy23);refine Ok.join (fun y26:(List G.Note) × G.Client=>wt y26.1≤3000∧wt y26.2≤wt a0+1000∧y26.2.Id=a0.Id) (fun y26 hy26=>?_) (fun k27 hk27=>?_)
         ·(try simp only [N] at hy26);refine Ok.join (fun y29:(List G.Note)=>wt y29≤4000) (fun y29 hy29=>?_) (fun k30 hk30=>?_)
          ·(try simp only [N] at hy29);refine Ok.join (fun y32:(List G.Frame) × (List G.Note) × G.Client=>y32.1.length≤1∧wt y32.1≤400∧wt y32.2.1≤8000∧wt y32.2.2≤wt a0+2000∧y32.2.2.Id=a0.Id) (fun y32 hy32=>?_) (fun k33 hk33=>?_)
           ·(try simp only [N] at hy32);refine Ok.some' ?_;(try simp only [N]);omega
           refine Ok.cond' (fun h5=>?_) (fun h5=>?_)
           ·(try simp only [B] at h5);refine Ok.bind (spec_ChanSeal_t ?_ ?_) (fun r34 hr34=>?_)
            ·(try simp only [N]);omega
            ·(try simp only [N]);omega
            (try simp only [N] at hr34);refine Ok.join (fun y35:(List G.Frame) × (List G.Note) × G.Client=>y35.1.length≤1∧wt y35.1≤400∧wt y35.2.1≤8000∧wt y35.2.2≤wt a0+2000∧y35.2.2.Id=a0.Id) (fun y35 hy35=>?_) (fun k36 hk36=>?_)
            ·(try simp only [N] at hy35);refine hk33 _ ?_;(try simp only [N]);omega
            refine Ok.cond' (fun h6=>?_) (fun h6=>?_)
            ·(try simp only [B] at h6);refine Ok.guard ?_ ?_
             ·(try simp only [N]);omega
             refine Ok.bind (spec_l19Made_t ?_ ?_) (fun r37 hr37=>?_)
             ·(try simp only [N]);omega
             ·(try simp only [N]);omega
             (try simp only [N] at hr37);refine Ok.guard ?_ ?_
             ·(try simp only [N]);omega
             refine Ok.guard ?_ ?_
             ·(try simp only [N]);omega
             refine Ok.guard ?_ ?_
             ·(try simp only [N]);omega
             refine Ok.guard ?_ ?_
             ·(try simp only [N]);omega
             refine hk36 _ ?_;(try simp only [N]);omega
            ·(try simp only [B] at h6);refine hk36 _ ?_;(try simp only [N]);omega
           ·(try simp only [B] at h5);refine hk33 _ ?_;(try simp only [N]);omega
          refine Ok.cond' (fun h7=>?_) (fun h7=>?_)
          ·(try simp only [B] at h7);refine Ok.guard ?_ ?_
           ·(try simp only [N]);omega
           refine Ok.guard ?_ ?_
           ·(try simp only [N]);omega
           refine Ok.guard ?_ ?_
           ·(try simp only [N]);omega
           refine hk30 _ ?_;(try simp only [N]);omega
          ·(try simp only [B] at h7);refine hk30 _ ?_;(try simp only [N]);omega
         refine Ok.cond' (fun h8=>?_) (fun h8=>?_)
         ·(try simp only [B] at h8);refine Ok.guard ?_ ?_
          ·(try simp only [N]);omega
          refine Ok.guard ?_ ?_
          ·(try simp only [N]);omega
          refine Ok.guard ?_ ?_
          ·(try simp only [N]);omega
          refine hk27 _ ?_;(try simp only [N]);omega
         ·(try simp only [B] at h8);refine hk27 _ ?_;(try simp only [N]);omega
        refine Ok.cond' (fun h9=>?_) (fun h9=>?_)
        ·(try simp only [B] at h9);refine Ok.guard ?_ ?_
         ·(try simp only [N]);omega
         refine Ok.guard ?_ ?_
         ·(try simp only [N]);omega
         refine Ok.guard ?_ ?_
         ·(try simp only [N]);omega
         refine Ok.guard ?_ ?_
         ·(try simp only [N]);omega
         refine hk24 _ ?_;(try simp only [N]);omega
        ·(try simp only [B] at h9);refine hk24 _ ?_;(try simp only [N]);omega
     refine Ok.cond' (fun h10=>?_) (fun h10=>?_)
     ·exact hk18 _ trivial
     ·exact hk18 _ trivial
   refine Ok.cond' (fun h11=>?_) (fun h11=>?_)
   ·(try simp only [B] at h11);refine Ok.cond' (fun h12=>?_) (fun h12=>?_)
    ·(try simp only [B] at h12);refine Ok.bind (sameO_t ?_) (fun r7 hr7=>?_)
     ·(try simp only [N]);omega
     (try simp only [N] at hr7);exact hk6 _ trivial
    ·exact hk6 _ trivial
   ·exact hk6 _ trivial
 refine Ok.bind (clientOkO_t ?_) (fun r4 hr4=>?_)
 ·(try simp only [N]);omega
 refine Ok.cond' (fun h13=>?_) (fun h13=>?_)
 ·exact hk3 _ fun h=>nomatch h
 ·(try simp only [B] at h13);replace hr4:=hr4 h13;(try simp only [N] at hr4);refine Ok.cond' (fun h14=>?_) (fun h14=>?_)
  ·exact hk3 _ fun h=>nomatch h
  ·(try simp only [B] at h14);refine hk3 _ fun q15=>?_;(try simp only [B] at q15);have f16:=frameOk_f q15;(try simp only [N] at f16);(try simp only [N]);omega
end Go.D
namespace Go.D
theorem spec_Bury_t {a0:G.Sess} (ha:wt a0≤1000000000):Ok (spec_Bury.raw a0) fun r=>wt r≤wt a0:=by
 (try simp only [N] at ha);have hL:=LIM_is
 unfold spec_Bury.raw
 refine Ok.bind (sessOkO_t ?_) (fun r1 hr1=>?_)
 ·(try simp only [N]);omega
 refine Ok.cond' (fun h1=>?_) (fun h1=>?_)
 ·(try simp only [B] at h1);refine Ok.same (pt_some ?_) ?_
  ·(try simp only [N]);omega
  refine Ok.some' ?_;(try simp only [N]);omega
 ·(try simp only [B] at h1);replace hr1:=hr1 h1;(try simp only [N] at hr1);refine Ok.guard ?_ ?_
  ·(try simp only [N]);omega
  refine Ok.guard ?_ ?_
  ·(try simp only [N]);omega
  refine Ok.some' ?_;(try simp only [N]);omega
theorem spec_PathsNew_t {a0:G.Addr}:Ok (spec_PathsNew.raw a0) fun r=>wt r≤0:=by
 have hL:=LIM_is
 unfold spec_PathsNew.raw
 refine Ok.some' ?_;(try simp only [N]);omega
theorem spec_SessNew_t {a0:List UInt8} {a1:Int} {a2:G.Addr} {a3:G.Frame} (ha:wt a3≤1000000000):Ok (spec_SessNew.raw a0 a1 a2 a3) fun r=>wt r≤400:=by
 (try simp only [N] at ha);have hL:=LIM_is
 unfold spec_SessNew.raw
 refine Ok.join (fun y1:Bool=>y1=false→wt a3≤112) (fun y1 hy1=>?_) (fun k2 hk2=>?_)
 ·refine Ok.cond' (fun h1=>?_) (fun h1=>?_)
  ·refine Ok.some' ?_;(try simp only [N]);omega
  ·replace hy1:=hy1 h1;(try simp only [N] at hy1);refine Ok.guard ?_ ?_
   ·(try simp only [N]);omega
   refine Ok.guard ?_ ?_
   ·(try simp only [N]);omega
   refine Ok.bind (spec_EpochKey_t ?_ ?_) (fun r3 hr3=>?_)
   ·(try simp only [N]);omega
   ·(try simp only [N]);omega
   (try simp only [N] at hr3);refine Ok.bind (spec_ChanNew_t ?_ ?_) (fun r4 hr4=>?_)
   ·(try simp only [N]);omega
   ·(try simp only [N]);omega
   (try simp only [N] at hr4);refine Ok.bind (spec_PathsNew_t) (fun r5 hr5=>?_);(try simp only [N] at hr5);refine Ok.some' ?_;(try simp only [N]);omega
 refine Ok.cond' (fun h2=>?_) (fun h2=>?_)
 ·exact hk2 _ fun h=>nomatch h
 ·(try simp only [B] at h2);have f3:=pskOk_f h2;(try simp only [N] at f3);refine Ok.cond' (fun h4=>?_) (fun h4=>?_)
  ·exact hk2 _ fun h=>nomatch h
  ·(try simp only [B] at h4);refine Ok.cond' (fun h5=>?_) (fun h5=>?_)
   ·exact hk2 _ fun h=>nomatch h
   ·(try simp only [B] at h5);have f6:=addrOk_f h5;(try simp only [N] at f6);refine Ok.cond' (fun h7=>?_) (fun h7=>?_)
    ·exact hk2 _ fun h=>nomatch h
    ·(try simp only [B] at h7);have f8:=frameOk_f h7;(try simp only [N] at f8);refine hk2 _ fun q9=>?_;(try simp only [B] at q9);(try simp only [N]);omega
theorem spec_AddSess_t {a0:G.Tab} {a1:G.Sess} (ha:wt a0≤1000000000) (hb:wt a1≤1000000000):Ok (spec_AddSess.raw a0 a1) fun r=>wt r.1≤wt a0+wt a1+1∧(r.2=0→0<r.1.L.length):=by
 (try simp only [N] at ha);(try simp only [N] at hb);have hL:=LIM_is
 unfold spec_AddSess.raw
 refine Ok.same (pt_some ?_) ?_
 ·(try simp only [N]);omega
 refine Ok.join (fun y2:Bool=>True) (fun y2 hy2=>?_) (fun k3 hk3=>?_)
 ·refine Ok.cond' (fun h1=>?_) (fun h1=>?_)
  ·refine Ok.some' ?_;(try simp only [N]);omega
  ·refine Ok.bind (findSnO_t ?_) (fun r6 hr6=>?_)
   ·(try simp only [N]);omega
   (try simp only [N] at hr6);refine Ok.cond' (fun h2=>?_) (fun h2=>?_)
   ·(try simp only [B] at h2);refine Ok.some' ?_;(try simp only [N]);omega
   ·(try simp only [B] at h2);refine Ok.join (fun y7:Bool=>True) (fun y7 hy7=>?_) (fun k8 hk8=>?_)
    ·refine Ok.cond' (fun h3=>?_) (fun h3=>?_)
     ·refine Ok.some' ?_;(try simp only [N]);omega
     ·refine Ok.same (pt_some ?_) ?_
      ·(try simp only [N]);omega
      refine Ok.guard ?_ ?_
      ·(try simp only [N]);omega
      refine Ok.some' ?_;(try simp only [N]);omega
    refine Ok.bind (liveO_t ?_) (fun r9 hr9=>?_)
    ·(try simp only [N]);omega
    (try simp only [N] at hr9);refine Ok.cond' (fun h4=>?_) (fun h4=>?_)
    ·exact hk8 _ trivial
    ·exact hk8 _ trivial
 refine Ok.bind (tabOkO_t ?_) (fun r4 hr4=>?_)
 ·(try simp only [N]);omega
 refine Ok.cond' (fun h5=>?_) (fun h5=>?_)
 ·exact hk3 _ trivial
 ·(try simp only [B] at h5);replace hr4:=hr4 h5;(try simp only [N] at hr4);refine Ok.bind (sessOkO_t ?_) (fun r5 hr5=>?_)
  ·(try simp only [N]);omega
  refine Ok.cond' (fun h6=>?_) (fun h6=>?_)
  ·exact hk3 _ trivial
  ·exact hk3 _ trivial
theorem spec_SessAck_t {a0:G.Sess} (ha:wt a0≤1000000000):Ok (spec_SessAck.raw a0) fun r=>wt r.1≤wt a0∧r.2.1.length≤1∧wt r.2.1≤400∧wt r.2.2≤600:=by
 (try simp only [N] at ha);have hL:=LIM_is
 unfold spec_SessAck.raw
 refine Ok.same (pt_some ?_) ?_
 ·(try simp only [N]);omega
 refine Ok.join (fun y2:Bool=>y2=false→wt a0≤235) (fun y2 hy2=>?_) (fun k3 hk3=>?_)
 ·refine Ok.cond' (fun h1=>?_) (fun h1=>?_)
  ·refine Ok.some' ?_;(try simp only [N]);omega
  ·replace hy2:=hy2 h1;(try simp only [N] at hy2);refine Ok.bind (spec_Ack_t ?_) (fun r5 hr5=>?_)
   ·(try simp only [N]);omega
   (try simp only [N] at hr5);refine Ok.cond' (fun h2=>?_) (fun h2=>?_)
   ·(try simp only [B] at h2);refine Ok.some' ?_;(try simp only [N]);omega
   ·(try simp only [B] at h2);refine Ok.bind (spec_l19Made_t ?_ ?_) (fun r6 hr6=>?_)
    ·(try simp only [N]);omega
    ·(try simp only [N]);omega
    (try simp only [N] at hr6);refine Ok.some' ?_;(try simp only [N]);omega
 refine Ok.bind (sessOkO_t ?_) (fun r4 hr4=>?_)
 ·(try simp only [N]);omega
 refine Ok.cond' (fun h3=>?_) (fun h3=>?_)
 ·exact hk3 _ fun h=>nomatch h
 ·(try simp only [B] at h3);replace hr4:=hr4 h3;(try simp only [N] at hr4);refine Ok.cond' (fun h4=>?_) (fun h4=>?_)
  ·exact hk3 _ fun h=>nomatch h
  ·(try simp only [B] at h4);refine hk3 _ fun q5=>?_;(try simp only [B] at q5);(try simp only [N]);omega
theorem spec_SessSend_t {a0:G.Sess} {a1:List UInt8} (ha:wt a0≤1000000000) (hb:wt a1≤1000000000):Ok (spec_SessSend.raw a0 a1) fun r=>wt r.1≤wt a0∧r.2.1.length≤1∧wt r.2.1≤400∧wt r.2.2.1≤2000:=by
 (try simp only [N] at ha);(try simp only [N] at hb);have hL:=LIM_is
 unfold spec_SessSend.raw
 refine Ok.same (pt_some ?_) ?_
 ·(try simp only [N]);omega
 refine Ok.join (fun y2:Bool=>y2=false→wt a0≤235∧a1.length≤40) (fun y2 hy2=>?_) (fun k3 hk3=>?_)
 ·refine Ok.cond' (fun h1=>?_) (fun h1=>?_)
  ·refine Ok.some' ?_;(try simp only [N]);omega
  ·replace hy2:=hy2 h1;(try simp only [N] at hy2);refine Ok.cond' (fun h2=>?_) (fun h2=>?_)
   ·(try simp only [B] at h2);refine Ok.some' ?_;(try simp only [N]);omega
   ·(try simp only [B] at h2);refine Ok.bind (spec_ChanSeal_t ?_ ?_) (fun r5 hr5=>?_)
    ·(try simp only [N]);omega
    ·(try simp only [N]);omega
    (try simp only [N] at hr5);refine Ok.cond' (fun h3=>?_) (fun h3=>?_)
    ·(try simp only [B] at h3);refine Ok.some' ?_;(try simp only [N]);omega
    ·(try simp only [B] at h3);refine Ok.guard ?_ ?_
     ·(try simp only [N]);omega
     refine Ok.guard ?_ ?_
     ·(try simp only [N]);omega
     refine Ok.bind (spec_l19Made_t ?_ ?_) (fun r6 hr6=>?_)
     ·(try simp only [N]);omega
     ·(try simp only [N]);omega
     (try simp only [N] at hr6);refine Ok.some' ?_;(try simp only [N]);omega
 refine Ok.bind (sessOkO_t ?_) (fun r4 hr4=>?_)
 ·(try simp only [N]);omega
 refine Ok.cond' (fun h4=>?_) (fun h4=>?_)
 ·exact hk3 _ fun h=>nomatch h
 ·(try simp only [B] at h4);replace hr4:=hr4 h4;(try simp only [N] at hr4);refine hk3 _ fun q5=>?_;(try simp only [B] at q5);(try simp only [N]);omega
theorem spec_SessTick_t {a0:G.Sess} {a1:Int} (ha:wt a0≤1000000000):Ok (spec_SessTick.raw a0 a1) fun r=>wt r≤wt a0+1600:=by
 (try simp only [N] at ha);have hL:=LIM_is
 unfold spec_SessTick.raw
 refine Ok.same (pt_some ?_) ?_
 ·(try simp only [N]);omega
 refine Ok.join (fun y2:Bool=>True) (fun y2 hy2=>?_) (fun k3 hk3=>?_)
 ·refine Ok.cond' (fun h1=>?_) (fun h1=>?_)
  ·refine Ok.some' ?_;(try simp only [N]);omega
  ·refine Ok.cond' (fun h2=>?_) (fun h2=>?_)
   ·(try simp only [B] at h2);(try have:=isub_eq (a:=a1) (b:=a0.Last) (by omega) (by omega));refine Ok.bind (spec_Bury_t ?_) (fun r5 hr5=>?_)
    ·(try simp only [N]);omega
    (try simp only [N] at hr5);refine Ok.some' ?_;(try simp only [N]);omega
   ·(try simp only [B] at h2);(try have:=isub_eq (a:=a1) (b:=a0.Last) (by omega) (by omega));refine Ok.bind (spec_ChanTick_t ?_) (fun r6 hr6=>?_)
    ·(try simp only [N]);omega
    (try simp only [N] at hr6);refine Ok.bind (spec_PathTick_t ?_) (fun r7 hr7=>?_)
    ·(try simp only [N]);omega
    (try simp only [N] at hr7);refine Ok.some' ?_;(try simp only [N]);omega
 refine Ok.bind (sessOkO_t ?_) (fun r4 hr4=>?_)
 ·(try simp only [N]);omega
 refine Ok.cond' (fun h3=>?_) (fun h3=>?_)
 ·exact hk3 _ trivial
 ·(try simp only [B] at h3);replace hr4:=hr4 h3;(try simp only [N] at hr4);refine Ok.cond' (fun h4=>?_) (fun h4=>?_)
  ·exact hk3 _ trivial
  ·exact hk3 _ trivial
theorem spec_SessHear_t {a0:G.Sess} {a1:Int} {a2:G.Addr} {a3:G.Frame} {a4:List UInt8} (ha:wt a0≤1000000000) (hb:wt a3≤1000000000) (hc:wt a4≤1000000000):Ok (spec_SessHear.raw a0 a1 a2 a3 a4) fun r=>wt r.1≤wt a0+5000∧r.2.1.length≤2∧wt r.2.1≤1000∧wt r.2.2.1≤10000:=by
 (try simp only [N] at ha);(try simp only [N] at hb);(try simp only [N] at hc);have hL:=LIM_is
 unfold spec_SessHear.raw
 refine Ok.same (pt_some ?_) ?_
 ·(try simp only [N]);omega
 refine Ok.join (fun y2:Bool=>y2=false→wt a0≤235) (fun y2 hy2=>?_) (fun k3 hk3=>?_)
 ·refine Ok.cond' (fun h1=>?_) (fun h1=>?_)
  ·refine Ok.some' ?_;(try simp only [N]);omega
  ·replace hy2:=hy2 h1;(try simp only [N] at hy2);refine Ok.bind (spec_ChanOpen_t ?_ ?_) (fun r5 hr5=>?_)
   ·(try simp only [N]);omega
   ·(try simp only [N]);omega
   (try simp only [N] at hr5);refine Ok.cond' (fun h2=>?_) (fun h2=>?_)
   ·(try simp only [B] at h2);refine Ok.some' ?_;(try simp only [N]);omega
   ·(try simp only [B] at h2);refine Ok.bind (spec_KeyFor_t ?_) (fun r6 hr6=>?_)
    ·(try simp only [N]);omega
    (try simp only [N] at hr6);refine Ok.bind (spec_TagInput_t ?_) (fun r7 hr7=>?_)
    ·(try simp only [N]);omega
    (try simp only [N] at hr7);refine Ok.bind (spec_Took_t ?_ ?_ ?_) (fun r8 hr8=>?_)
    ·(try simp only [N]);omega
    ·(try simp only [N]);omega
    ·(try simp only [N]);omega
    (try simp only [N] at hr8);refine Ok.guard ?_ ?_
    ·(try simp only [N]);omega
    refine Ok.join (fun y9:(List G.Out) × (List G.Note) × G.Sess=>y9.1.length≤1∧wt y9.1≤400∧wt y9.2.1≤4000∧wt y9.2.2≤wt a0+3000) (fun y9 hy9=>?_) (fun k10 hk10=>?_)
    ·(try simp only [N] at hy9);refine Ok.bind (spec_Offer_t ?_ ?_) (fun r30 hr30=>?_)
     ·(try simp only [N]);omega
     ·(try simp only [N]);omega
     (try simp only [N] at hr30);refine Ok.bind (spec_ChanSeal_t ?_ ?_) (fun r31 hr31=>?_)
     ·(try simp only [N]);omega
     ·(try simp only [N]);omega
     (try simp only [N] at hr31);refine Ok.join (fun y32:Bool=>True) (fun y32 hy32=>?_) (fun k33 hk33=>?_)
     ·refine Ok.cond' (fun h3=>?_) (fun h3=>?_)
      ·refine Ok.some' ?_;(try simp only [N]);omega
      ·refine Ok.guard ?_ ?_
       ·(try simp only [N]);omega
       refine Ok.bind (spec_l19Made_t ?_ ?_) (fun r34 hr34=>?_)
       ·(try simp only [N]);omega
       ·(try simp only [N]);omega
       (try simp only [N] at hr34);refine Ok.guard ?_ ?_
       ·(try simp only [N]);omega
       refine Ok.some' ?_;(try simp only [N]);omega
     refine Ok.cond' (fun h4=>?_) (fun h4=>?_)
     ·exact hk33 _ trivial
     ·exact hk33 _ trivial
    refine Ok.cond' (fun h5=>?_) (fun h5=>?_)
    ·(try simp only [B] at h5);refine Ok.guard ?_ ?_
     ·(try simp only [N]);omega
     refine Ok.guard ?_ ?_
     ·(try simp only [N]);omega
     refine Ok.guard ?_ ?_
     ·(try simp only [N]);omega
     refine hk10 _ ?_;(try simp only [N]);omega
    ·(try simp only [B] at h5);refine Ok.join (fun y12:(List G.Out) × (List G.Note) × G.Sess=>y12.1.length≤1∧wt y12.1≤400∧wt y12.2.1≤4000∧wt y12.2.2≤wt a0+3000) (fun y12 hy12=>?_) (fun k13 hk13=>?_)
     ·(try simp only [N] at hy12);refine hk10 _ ?_;(try simp only [N]);omega
     refine Ok.cond' (fun h6=>?_) (fun h6=>?_)
     ·(try simp only [B] at h6);refine Ok.bind (spec_Answer_t ?_ ?_) (fun r14 hr14=>?_)
      ·(try simp only [N]);omega
      ·(try simp only [N]);omega
      (try simp only [N] at hr14);refine Ok.join (fun y15:(List G.Note) × G.Sess=>wt y15.1≤4000∧wt y15.2≤wt a0+3000) (fun y15 hy15=>?_) (fun k16 hk16=>?_)
      ·(try simp only [N] at hy15);refine hk13 _ ?_;(try simp only [N]);omega
      refine Ok.cond' (fun h7=>?_) (fun h7=>?_)
      ·(try simp only [B] at h7);refine Ok.guard ?_ ?_
       ·(try simp only [N]);omega
       refine Ok.guard ?_ ?_
       ·(try simp only [N]);omega
       refine Ok.guard ?_ ?_
       ·(try simp only [N]);omega
       refine hk16 _ ?_;(try simp only [N]);omega
      ·(try simp only [B] at h7);refine hk16 _ ?_;(try simp only [N]);omega
     ·(try simp only [B] at h6);refine Ok.join (fun y18:(List G.Out) × (List G.Note) × G.Sess=>y18.1.length≤1∧wt y18.1≤400∧wt y18.2.1≤4000∧wt y18.2.2≤wt a0+3000) (fun y18 hy18=>?_) (fun k19 hk19=>?_)
      ·(try simp only [N] at hy18);refine hk13 _ ?_;(try simp only [N]);omega
      refine Ok.cond' (fun h8=>?_) (fun h8=>?_)
      ·(try simp only [B] at h8);refine Ok.bind (spec_HearRekey_t ?_ ?_) (fun r20 hr20=>?_)
       ·(try simp only [N]);omega
       ·(try simp only [N]);omega
       (try simp only [N] at hr20);refine Ok.join (fun y21:(List G.Out) × (List G.Note) × G.Sess=>y21.1.length≤1∧wt y21.1≤400∧wt y21.2.1≤4000∧wt y21.2.2≤wt a0+3000) (fun y21 hy21=>?_) (fun k22 hk22=>?_)
       ·(try simp only [N] at hy21);refine hk19 _ ?_;(try simp only [N]);omega
       refine Ok.cond' (fun h9=>?_) (fun h9=>?_)
       ·(try simp only [B] at h9);refine Ok.join (fun y23:(List G.Note)=>wt y23≤2000) (fun y23 hy23=>?_) (fun k24 hk24=>?_)
        ·(try simp only [N] at hy23);refine Ok.bind (spec_Ack_t ?_) (fun r26 hr26=>?_)
         ·(try simp only [N]);omega
         (try simp only [N] at hr26);refine Ok.join (fun y27:(List G.Out) × (List G.Note) × G.Sess=>y27.1.length≤1∧wt y27.1≤400∧wt y27.2.1≤4000∧wt y27.2.2≤wt a0+3000) (fun y27 hy27=>?_) (fun k28 hk28=>?_)
         ·(try simp only [N] at hy27);refine hk22 _ ?_;(try simp only [N]);omega
         refine Ok.cond' (fun h10=>?_) (fun h10=>?_)
         ·(try simp only [B] at h10);refine Ok.guard ?_ ?_
          ·(try simp only [N]);omega
          refine Ok.bind (spec_l19Made_t ?_ ?_) (fun r29 hr29=>?_)
          ·(try simp only [N]);omega
          ·(try simp only [N]);omega
          (try simp only [N] at hr29);refine Ok.guard ?_ ?_
          ·(try simp only [N]);omega
          refine hk28 _ ?_;(try simp only [N]);omega
         ·(try simp only [B] at h10);refine hk28 _ ?_;(try simp only [N]);omega
        refine Ok.cond' (fun h11=>?_) (fun h11=>?_)
        ·(try simp only [B] at h11);refine Ok.guard ?_ ?_
         ·(try simp only [N]);omega
         refine Ok.guard ?_ ?_
         ·(try simp only [N]);omega
         refine Ok.guard ?_ ?_
         ·(try simp only [N]);omega
         refine hk24 _ ?_;(try simp only [N]);omega
        ·(try simp only [B] at h11);refine hk24 _ ?_;(try simp only [N]);omega
       ·(try simp only [B] at h9);refine hk22 _ ?_;(try simp only [N]);omega
      ·(try simp only [B] at h8);refine hk19 _ ?_;(try simp only [N]);omega
 refine Ok.bind (sessOkO_t ?_) (fun r4 hr4=>?_)
 ·(try simp only [N]);omega
 refine Ok.cond' (fun h12=>?_) (fun h12=>?_)
 ·exact hk3 _ fun h=>nomatch h
 ·(try simp only [B] at h12);replace hr4:=hr4 h12;(try simp only [N] at hr4);refine Ok.cond' (fun h13=>?_) (fun h13=>?_)
  ·exact hk3 _ fun h=>nomatch h
  ·(try simp only [B] at h13);refine hk3 _ fun q14=>?_;(try simp only [B] at q14);have f15:=addrOk_f q14;(try simp only [N] at f15);(try simp only [N]);omega
theorem spec_l22End_t {a0:G.Sess} (ha:wt a0≤1000000000):Ok (spec_l22End.raw a0) fun r=>wt r≤wt a0:=by
 (try simp only [N] at ha);have hL:=LIM_is
 unfold spec_l22End.raw
 refine Ok.guard ?_ ?_
 ·(try simp only [N]);omega
 refine Ok.some' ?_;(try simp only [N]);omega
theorem spec_TabTick_t {a0:G.Tab} {a1:Int} (ha:wt a0≤1000000000):Ok (spec_TabTick.raw a0 a1) fun r=>wt r≤wt a0+60000:=by
 (try simp only [N] at ha);have hL:=LIM_is;have hw:=wt_len a0.L;(try simp only [N] at hw)
 unfold spec_TabTick.raw
 refine Ok.join (fun y1:Bool=>y1=false→wt a0≤2832∧a0.L.length≤12) (fun y1 hy1=>?_) (fun k2 hk2=>?_)
 ·refine Ok.cond' (fun h1=>?_) (fun h1=>?_)
  ·refine Ok.same (pt_some ?_) ?_
   ·(try simp only [N]);omega
   refine Ok.some' ?_;(try simp only [N]);omega
  ·replace hy1:=hy1 h1;(try simp only [N] at hy1);refine Ok.join (fun y5:G.Tab=>wt y5≤60000) (fun y5 hy5=>?_) (fun k6 hk6=>?_)
   ·(try simp only [N] at hy5);refine Ok.some' ?_;(try simp only [N]);omega
   refine Ok.loop (fun x7:Int × G.Tab=>0≤x7.1∧x7.1≤(a0.L.length:Int)∧wt x7.2≤4500 *x7.1) (fun x7:Int × G.Tab=>((a0.L.length:Int) - x7.1).toNat) (fun x7 hx7 k8 hk8=>?_) ?_ ?_
   ·(try simp only [N] at hx7);refine Ok.cond' (fun h2=>?_) (fun h2=>?_)
    ·(try simp only [B] at h2);refine Ok.bind (Ok.idx ?_ ?_) (fun e9 he9=>?_)
     ·(try simp only [N]);omega
     ·(try simp only [N]);omega
     have he9w:=wt_at he9;(try simp only [N] at he9w);refine Ok.bind (spec_SessTick_t ?_) (fun r10 hr10=>?_)
     ·(try simp only [N]);omega
     (try simp only [N] at hr10);refine Ok.join (fun y11:Bool=>True) (fun y11 hy11=>?_) (fun k12 hk12=>?_)
     ·refine Ok.join (fun y13:G.Tab=>wt y13≤4500 *x7.1+4500) (fun y13 hy13=>?_) (fun k14 hk14=>?_)
      ·(try simp only [N] at hy13);refine hk8 _ ?_ ?_
       ·(try have:=iadd_eq (a:=x7.1) (b:=1) (by omega) (by omega));(try simp only [N]);omega
       ·(try have:=iadd_eq (a:=x7.1) (b:=1) (by omega) (by omega));(try simp only);omega
      refine Ok.cond' (fun h3=>?_) (fun h3=>?_)
      ·refine Ok.guard ?_ ?_
       ·(try simp only [N]);omega
       refine hk14 _ ?_;(try simp only [N]);omega
      ·refine hk14 _ ?_;(try simp only [N]);omega
     refine Ok.cond' (fun h4=>?_) (fun h4=>?_)
     ·exact hk12 _ trivial
     ·exact hk12 _ trivial
    ·(try simp only [B] at h2);refine hk6 _ ?_;(try simp only [N]);omega
   ·(try simp only [N]);omega
   ·(try simp only);omega
 refine Ok.bind (tabOkO_t ?_) (fun r3 hr3=>?_)
 ·(try simp only [N]);omega
 refine Ok.cond' (fun h5=>?_) (fun h5=>?_)
 ·exact hk2 _ fun h=>nomatch h
 ·(try simp only [B] at h5);replace hr3:=hr3 h5;(try simp only [N] at hr3);refine hk2 _ fun q6=>?_;(try simp only [B] at q6);(try simp only [N]);omega
theorem spec_ServerSend_t {a0:G.Server} {a1:Int} {a2:Int} {a3:List UInt8} (ha:wt a0≤1000000000) (hb:wt a3≤1000000000):Ok (spec_ServerSend.raw a0 a1 a2 a3) fun r=>wt r.1≤wt a0+4000∧r.2.1.length≤1∧wt r.2.1≤400∧wt r.2.2.1≤2000:=by
 (try simp only [N] at ha);(try simp only [N] at hb);have hL:=LIM_is;have hw:=wt_len a0.T.L;(try simp only [N] at hw)
 unfold spec_ServerSend.raw
 refine Ok.same (pt_some ?_) ?_
 ·(try simp only [N]);omega
 refine Ok.join (fun y2:Bool=>y2=false→SF a0) (fun y2 hy2=>?_) (fun k3 hk3=>?_)
 ·refine Ok.cond' (fun h1=>?_) (fun h1=>?_)
  ·refine Ok.some' ?_;(try simp only [N]);omega
  ·replace hy2:=hy2 h1;(try simp only [N] at hy2);refine Ok.cond' (fun h2=>?_) (fun h2=>?_)
   ·(try simp only [B] at h2);(try have:=isub_eq (a:=(a0.T.L.length:Int)) (b:=1) (by omega) (by omega));refine Ok.some' ?_;(try simp only [N]);omega
   ·(try simp only [B] at h2);(try have:=isub_eq (a:=(a0.T.L.length:Int)) (b:=1) (by omega) (by omega));refine Ok.bind (Ok.idx ?_ ?_) (fun e6 he6=>?_)
    ·(try simp only [N]);omega
    ·(try simp only [N]);omega
    have he6w:=wt_at he6;(try simp only [N] at he6w);refine Ok.bind (spec_SessSend_t ?_ ?_) (fun r7 hr7=>?_)
    ·(try simp only [N]);omega
    ·(try simp only [N]);omega
    (try simp only [N] at hr7);refine Ok.join (fun y8:G.Server=>wt y8≤wt a0+4000) (fun y8 hy8=>?_) (fun k9 hk9=>?_)
    ·(try simp only [N] at hy8);refine Ok.some' ?_;(try simp only [N]);omega
    refine Ok.cond' (fun h3=>?_) (fun h3=>?_)
    ·(try simp only [B] at h3);refine Ok.chk ?_ ?_
     ·(try simp only [B]);omega
     refine Ok.bind (Ok.get ?_) (fun e10 he10=>?_)
     ·(try simp only [N]);omega
     have he10w:=wt_at he10;(try simp only [N] at he10w);refine hk9 _ ?_;have:=wt_set_le a0.T.L a2.toNat r7.1;(try simp only [N] at this);(try simp only [N]);omega
    ·(try simp only [B] at h3);refine hk9 _ ?_;(try simp only [N]);omega
 refine Ok.bind (serverOkO_t ?_) (fun r4 hr4=>?_)
 ·(try simp only [N]);omega
 refine Ok.cond' (fun h4=>?_) (fun h4=>?_)
 ·exact hk3 _ fun h=>nomatch h
 ·(try simp only [B] at h4);replace hr4:=hr4 h4;(try simp only [N] at hr4);refine hk3 _ fun q5=>?_;(try simp only [B] at q5);(try simp only [N]);omega
theorem spec_ServerTick_t {a0:G.Server} {a1:Int} (ha:wt a0≤1000000000):Ok (spec_ServerTick.raw a0 a1) fun r=>wt r.1≤wt a0+60000∧wt r.2≤50000:=by
 (try simp only [N] at ha);have hL:=LIM_is;have hw:=wt_len a0.T.L;(try simp only [N] at hw)
 unfold spec_ServerTick.raw
 refine Ok.same (pt_some ?_) ?_
 ·(try simp only [N]);omega
 refine Ok.join (fun y2:Bool=>y2=false→SF a0) (fun y2 hy2=>?_) (fun k3 hk3=>?_)
 ·refine Ok.cond' (fun h1=>?_) (fun h1=>?_)
  ·refine Ok.some' ?_;(try simp only [N]);omega
  ·replace hy2:=hy2 h1;(try simp only [N] at hy2);refine Ok.bind (spec_TabTick_t ?_) (fun r5 hr5=>?_)
   ·(try simp only [N]);omega
   (try simp only [N] at hr5);refine Ok.join (fun y6:(List G.Note)=>wt y6≤50000) (fun y6 hy6=>?_) (fun k7 hk7=>?_)
   ·(try simp only [N] at hy6);refine Ok.some' ?_;(try simp only [N]);omega
   refine Ok.loop (fun x8:(List G.Note) × Int=>0≤x8.2∧x8.2≤(a0.T.L.length:Int)∧wt x8.1≤3400 *x8.2) (fun x8:(List G.Note) × Int=>((a0.T.L.length:Int) - x8.2).toNat) (fun x8 hx8 k9 hk9=>?_) ?_ ?_
   ·(try simp only [N] at hx8);refine Ok.cond' (fun h2=>?_) (fun h2=>?_)
    ·(try simp only [B] at h2);refine Ok.bind (Ok.idx ?_ ?_) (fun e10 he10=>?_)
     ·(try simp only [N]);omega
     ·(try simp only [N]);omega
     have he10w:=wt_at he10;(try simp only [N] at he10w);refine Ok.bind (findSnO_t ?_) (fun r11 hr11=>?_)
     ·(try simp only [N]);omega
     (try simp only [N] at hr11);refine Ok.join (fun y12:Bool=>True) (fun y12 hy12=>?_) (fun k13 hk13=>?_)
     ·refine Ok.join (fun y16:(List G.Note)=>wt y16≤3400 *x8.2+3400) (fun y16 hy16=>?_) (fun k17 hk17=>?_)
      ·(try simp only [N] at hy16);refine hk9 _ ?_ ?_
       ·(try have:=iadd_eq (a:=x8.2) (b:=1) (by omega) (by omega));(try simp only);omega
       ·(try have:=iadd_eq (a:=x8.2) (b:=1) (by omega) (by omega));(try simp only);omega
      refine Ok.cond' (fun h3=>?_) (fun h3=>?_)
      ·refine Ok.bind (Ok.idx ?_ ?_) (fun e18 he18=>?_)
       ·(try simp only [N]);omega
       ·(try simp only [N]);omega
       have he18w:=wt_at he18;(try simp only [N] at he18w);refine Ok.bind (spec_l22End_t ?_) (fun r19 hr19=>?_)
       ·(try simp only [N]);omega
       (try simp only [N] at hr19);refine Ok.guard ?_ ?_
       ·(try simp only [N]);omega
       refine hk17 _ ?_;(try simp only [N]);omega
      ·refine hk17 _ ?_;(try simp only [N]);omega
     refine Ok.bind (Ok.idx ?_ ?_) (fun e14 he14=>?_)
     ·(try simp only [N]);omega
     ·(try simp only [N]);omega
     have he14w:=wt_at he14;(try simp only [N] at he14w);refine Ok.cond' (fun h4=>?_) (fun h4=>?_)
     ·(try simp only [B] at h4);refine Ok.cond' (fun h5=>?_) (fun h5=>?_)
      ·exact hk13 _ trivial
      ·(try simp only [B] at h5);refine Ok.chk ?_ ?_
       ·(try simp only [B]);omega
       refine Ok.bind (Ok.get ?_) (fun e15 he15=>?_)
       ·(try simp only [N]);omega
       have he15w:=wt_at he15;(try simp only [N] at he15w);exact hk13 _ trivial
     ·exact hk13 _ trivial
    ·(try simp only [B] at h2);refine hk7 _ ?_;(try simp only [N]);omega
   ·(try simp only [N]);omega
   ·(try simp only);omega
 refine Ok.bind (serverOkO_t ?_) (fun r4 hr4=>?_)
 ·(try simp only [N]);omega
 refine Ok.cond' (fun h6=>?_) (fun h6=>?_)
 ·exact hk3 _ fun h=>nomatch h
 ·(try simp only [B] at h6);replace hr4:=hr4 h6;(try simp only [N] at hr4);refine hk3 _ fun q7=>?_;(try simp only [B] at q7);(try simp only [N]);omega
theorem spec_l22Out_t {a0:G.Server} {a1:List G.Out} (ha:wt a0≤1000000000) (hb:wt a1≤3000) (hc:a1.length≤3):Ok (spec_l22Out.raw a0 a1) fun r=>r.1.length≤3∧wt r.1≤9100∧wt r.2≤wt a0:=by
 (try simp only [N] at ha);(try simp only [N] at hb);(try simp only [N] at hc);have hL:=LIM_is
 unfold spec_l22Out.raw
 refine Ok.join (fun y1:(List G.Out) × G.Server=>y1.1.length≤3∧wt y1.1≤9100∧wt y1.2≤wt a0) (fun y1 hy1=>?_) (fun k2 hk2=>?_)
 ·(try simp only [N] at hy1);refine Ok.some' ?_;(try simp only [N]);omega
 refine Ok.loop (fun x3:(List G.Out) × Int × G.Server=>0≤x3.2.1∧x3.2.1≤(a1.length:Int)∧(x3.1.length:Int)≤x3.2.1∧wt x3.1≤3001 *x3.2.1∧wt x3.2.2≤wt a0) (fun x3:(List G.Out) × Int × G.Server=>((a1.length:Int) - x3.2.1).toNat) (fun x3 hx3 k4 hk4=>?_) ?_ ?_
 ·(try simp only [N] at hx3);refine Ok.cond' (fun h1=>?_) (fun h1=>?_)
  ·(try simp only [B] at h1);refine Ok.join (fun y5:(List G.Out) × G.Server=>(y5.1.length:Int)≤x3.2.1+1∧wt y5.1≤3001 *x3.2.1+3001∧wt y5.2≤wt a0) (fun y5 hy5=>?_) (fun k6 hk6=>?_)
   ·(try simp only [N] at hy5);refine hk4 _ ?_ ?_
    ·(try have:=iadd_eq (a:=x3.2.1) (b:=1) (by omega) (by omega));(try simp only [N]);omega
    ·(try have:=iadd_eq (a:=x3.2.1) (b:=1) (by omega) (by omega));(try simp only);omega
   refine Ok.bind (Ok.idx ?_ ?_) (fun e7 he7=>?_)
   ·(try simp only [N]);omega
   ·(try simp only [N]);omega
   have he7w:=wt_at he7;(try simp only [N] at he7w);refine Ok.bind (spec_AtOf_t ?_) (fun r8 hr8=>?_)
   ·(try simp only [N]);omega
   refine Ok.join (fun y9:G.Server=>wt y9≤wt a0) (fun y9 hy9=>?_) (fun k10 hk10=>?_)
   ·(try simp only [N] at hy9);refine Ok.bind (Ok.idx ?_ ?_) (fun e15 he15=>?_)
    ·(try simp only [N]);omega
    ·(try simp only [N]);omega
    have he15w:=wt_at he15;(try simp only [N] at he15w);refine Ok.guard ?_ ?_
    ·(try simp only [N]);omega
    refine hk6 _ ?_;(try simp only [N]);omega
   refine Ok.cond' (fun h2=>?_) (fun h2=>?_)
   ·(try simp only [B] at h2);refine Ok.bind (Ok.idx ?_ ?_) (fun e11 he11=>?_)
    ·(try simp only [N]);omega
    ·(try simp only [N]);omega
    have he11w:=wt_at he11;(try simp only [N] at he11w);refine Ok.bind (Ok.idx ?_ ?_) (fun e12 he12=>?_)
    ·(try simp only [N]);omega
    ·(try simp only [N]);omega
    have he12w:=wt_at he12;(try simp only [N] at he12w);refine Ok.bind (spec_SizeOf_t ?_) (fun r13 hr13=>?_)
    ·(try simp only [N]);omega
    refine Ok.bind (spec_Spend_t ?_) (fun r14 hr14=>?_)
    ·(try simp only [N]);omega
    (try simp only [N] at hr14);refine Ok.cond' (fun h3=>?_) (fun h3=>?_)
    ·(try simp only [B] at h3);refine hk6 _ ?_;(try simp only [N]);omega
    ·(try simp only [B] at h3);refine hk10 _ ?_;(try simp only [N]);omega
   ·(try simp only [B] at h2);refine hk10 _ ?_;(try simp only [N]);omega
  ·(try simp only [B] at h1);refine hk2 _ ?_;(try simp only [N]);omega
 ·(try simp only [N]);omega
 ·(try simp only);omega
theorem spec_Boot_t {a0:G.Server} (ha:wt a0≤1000000000):Ok (spec_Boot.raw a0) fun r=>wt r.1≤wt a0+100∧wt r.2≤200:=by
 (try simp only [N] at ha);have hL:=LIM_is
 unfold spec_Boot.raw
 refine Ok.same (pt_some ?_) ?_
 ·(try simp only [N]);omega
 refine Ok.join (fun y2:Bool=>y2=false→SF a0) (fun y2 hy2=>?_) (fun k3 hk3=>?_)
 ·refine Ok.cond' (fun h1=>?_) (fun h1=>?_)
  ·refine Ok.some' ?_;(try simp only [N]);omega
  ·replace hy2:=hy2 h1;(try simp only [N] at hy2);refine Ok.bind (rollO_t ?_) (fun r5 hr5=>?_)
   ·(try simp only [N]);omega
   (try simp only [N] at hr5);have hj:=jarNew_le r5.2;(try simp only [N] at hj);have ht:=tabNew_wt a0.T.Cap;(try simp only [N] at ht)
   have hn:wt (noteRolled r5.2)=wt r5.2:=by simp only [noteRolled,wt_Note,wt_Addr,wt_bytes,List.length_nil];omega
   (try simp only [N] at hn);refine Ok.same (noteRolledO_s ?_) ?_
   ·(try simp only [N]);omega
   refine Ok.guard ?_ ?_
   ·(try simp only [N]);omega
   refine Ok.some' ?_;(try simp only [N]);omega
 refine Ok.bind (serverOkO_t ?_) (fun r4 hr4=>?_)
 ·(try simp only [N]);omega
 refine Ok.cond' (fun h2=>?_) (fun h2=>?_)
 ·exact hk3 _ fun h=>nomatch h
 ·(try simp only [B] at h2);replace hr4:=hr4 h2;(try simp only [N] at hr4);refine hk3 _ fun q3=>?_;(try simp only [B] at q3);(try simp only [N]);omega
theorem spec_ServerClose_t {a0:G.Server} {a1:Int} (ha:wt a0≤1000000000):Ok (spec_ServerClose.raw a0 a1) fun r=>wt r.1≤wt a0+4000∧wt r.2.1≤4000:=by
 (try simp only [N] at ha);have hL:=LIM_is;have hw:=wt_len a0.T.L;(try simp only [N] at hw)
 unfold spec_ServerClose.raw
 refine Ok.same (pt_some ?_) ?_
 ·(try simp only [N]);omega
 refine Ok.bind (serverOkO_t ?_) (fun r2 hr2=>?_)
 ·(try simp only [N]);omega
 refine Ok.cond' (fun h1=>?_) (fun h1=>?_)
 ·(try simp only [B] at h1);refine Ok.some' ?_;(try simp only [N]);omega
 ·(try simp only [B] at h1);replace hr2:=hr2 h1;(try simp only [N] at hr2);refine Ok.join (fun y3:Bool=>y3=false→0≤a1∧a1<(a0.T.L.length:Int)) (fun y3 hy3=>?_) (fun k4 hk4=>?_)
  ·refine Ok.cond' (fun h2=>?_) (fun h2=>?_)
   ·refine Ok.some' ?_;(try simp only [N]);omega
   ·replace hy3:=hy3 h2;(try simp only [N] at hy3);refine Ok.bind (Ok.idx ?_ ?_) (fun e7 he7=>?_)
    ·(try simp only [N]);omega
    ·(try simp only [N]);omega
    have he7w:=wt_at he7;(try simp only [N] at he7w);refine Ok.bind (spec_Bury_t ?_) (fun r8 hr8=>?_)
    ·(try simp only [N]);omega
    (try simp only [N] at hr8);refine Ok.chk ?_ ?_
    ·(try simp only [B]);omega
    refine Ok.bind (Ok.get ?_) (fun e9 he9=>?_)
    ·(try simp only [N]);omega
    have he9w:=wt_at he9;(try simp only [N] at he9w);refine Ok.bind (Ok.idx ?_ ?_) (fun e10 he10=>?_)
    ·(try simp only [N]);omega
    ·(try simp only [N]);omega
    have he10w:=wt_at he10;(try simp only [N] at he10w);refine Ok.bind (spec_l22End_t ?_) (fun r11 hr11=>?_)
    ·(try simp only [N]);omega
    (try simp only [N] at hr11);refine Ok.some' ?_;have:=wt_set_le a0.T.L a1.toNat r8;(try simp only [N] at this);(try simp only [N]);omega
  refine Ok.cond' (fun h3=>?_) (fun h3=>?_)
  ·exact hk4 _ fun h=>nomatch h
  ·(try simp only [B] at h3);(try have:=isub_eq (a:=(a0.T.L.length:Int)) (b:=1) (by omega) (by omega));refine Ok.bind (Ok.idx ?_ ?_) (fun e6 he6=>?_)
   ·(try simp only [N]);omega
   ·(try simp only [N]);omega
   have he6w:=wt_at he6;(try simp only [N] at he6w);refine hk4 _ fun q4=>?_;(try simp only [B] at q4);(try simp only [N]);omega
theorem spec_ServerHear_t {a0:G.Server} {a1:Int} {a2:G.Addr} {a3:List UInt8} (ha:wt a0≤1000000000) (hb:wt a3≤900000000):Ok (spec_ServerHear.raw a0 a1 a2 a3) fun r=>wt r.1≤wt a0+50000∧r.2.1.length≤3∧wt r.2.1≤9100∧wt r.2.2≤20000:=by
 (try simp only [N] at ha);(try simp only [N] at hb);have hL:=LIM_is
 unfold spec_ServerHear.raw
 refine Ok.same (pt_some ?_) ?_
 ·(try simp only [N]);omega
 refine Ok.join (fun y2:Bool=>y2=false→SF a0) (fun y2 hy2=>?_) (fun k3 hk3=>?_)
 ·refine Ok.cond' (fun h1=>?_) (fun h1=>?_)
  ·refine Ok.some' ?_;(try simp only [N]);omega
  ·replace hy2:=hy2 h1;(try simp only [N] at hy2);refine Ok.bind (spec_Gain_t ?_) (fun r5 hr5=>?_)
   ·(try simp only [N]);omega
   (try simp only [N] at hr5);refine Ok.bind (spec_GetFrame_t ?_) (fun r6 hr6=>?_)
   ·(try simp only [N]);omega
   (try simp only [N] at hr6);refine Ok.cond' (fun h2=>?_) (fun h2=>?_)
   ·(try simp only [B] at h2);refine Ok.some' ?_;(try simp only [N]);omega
   ·(try simp only [B] at h2);refine Ok.join (fun y7:(List G.Out) × (List G.Note) × G.Server × G.Server=>y7.1.length≤3∧wt y7.1≤2000∧wt y7.2.1≤20000∧wt y7.2.2.1≤wt a0+50000) (fun y7 hy7=>?_) (fun k8 hk8=>?_)
    ·(try simp only [N] at hy7);refine Ok.bind (spec_l22Out_t ?_ ?_ ?_) (fun r65 hr65=>?_)
     ·(try simp only [N]);omega
     ·(try simp only [N]);omega
     ·(try simp only [N]);omega
     (try simp only [N] at hr65);refine Ok.some' ?_;(try simp only [N]);omega
    refine Ok.cond' (fun h3=>?_) (fun h3=>?_)
    ·(try simp only [B] at h3);refine Ok.join (fun y9:Bool=>True) (fun y9 hy9=>?_) (fun k10 hk10=>?_)
     ·refine Ok.cond' (fun h4=>?_) (fun h4=>?_)
      ·refine Ok.some' ?_;(try simp only [N]);omega
      ·refine Ok.bind (rollO_t ?_) (fun r12 hr12=>?_)
       ·(try simp only [N]);omega
       (try simp only [N] at hr12)
       have hn:wt (noteRolled r12.2)=wt r12.2:=by simp only [noteRolled,wt_Note,wt_Addr,wt_bytes,List.length_nil];omega
       (try simp only [N] at hn);refine Ok.guard ?_ ?_
       ·(try simp only [N]);omega
       refine Ok.bind (spec_Mint_t ?_ ?_) (fun r13 hr13=>?_)
       ·(try simp only [N]);omega
       ·(try simp only [N]);omega
       (try simp only [N] at hr13);refine Ok.same (noteRolledO_s ?_) ?_
       ·(try simp only [N]);omega
       refine Ok.bind (spec_MintBody_t ?_ ?_) (fun r15 hr15=>?_)
       ·(try simp only [N]);omega
       ·(try simp only [N]);omega
       (try simp only [N] at hr15);refine Ok.bind (spec_Made_t ?_ ?_) (fun r16 hr16=>?_)
       ·(try simp only [N]);omega
       ·(try simp only [N]);omega
       (try simp only [N] at hr16);refine Ok.guard ?_ ?_
       ·(try simp only [N]);omega
       refine Ok.guard ?_ ?_
       ·(try simp only [N]);omega
       refine hk8 _ ?_;(try simp only [N]);omega
     refine Ok.cond' (fun h5=>?_) (fun h5=>?_)
     ·exact hk10 _ trivial
     ·(try simp only [B] at h5);refine Ok.bind (spec_MayAsk_t ?_) (fun r11 hr11=>?_)
      ·(try simp only [N]);omega
      refine Ok.cond' (fun h6=>?_) (fun h6=>?_)
      ·exact hk10 _ trivial
      ·exact hk10 _ trivial
    ·(try simp only [B] at h3);refine Ok.join (fun y18:(List G.Out) × (List G.Note) × G.Server × G.Server=>y18.1.length≤3∧wt y18.1≤2000∧wt y18.2.1≤20000∧wt y18.2.2.2≤wt a0+50000) (fun y18 hy18=>?_) (fun k19 hk19=>?_)
     ·(try simp only [N] at hy18);refine hk8 _ ?_;(try simp only [N]);omega
     refine Ok.cond' (fun h7=>?_) (fun h7=>?_)
     ·(try simp only [B] at h7);refine Ok.join (fun y20:Bool=>y20=false→1≤r6.1.Id∧r6.1.Id≤(a0.Psks.length:Int)) (fun y20 hy20=>?_) (fun k21 hk21=>?_)
      ·refine Ok.cond' (fun h8=>?_) (fun h8=>?_)
       ·refine Ok.some' ?_;(try simp only [N]);omega
       ·replace hy20:=hy20 h8;(try simp only [N] at hy20);refine Ok.bind (findSnO_t ?_) (fun r25 hr25=>?_)
        ·(try simp only [N]);omega
        (try simp only [N] at hr25);refine Ok.join (fun y26:(List G.Note) × Int × G.Server × G.Server=>wt y26.1≤8000∧wt y26.2.2.2≤wt a0+10000∧0≤y26.2.1∧y26.2.1<(y26.2.2.2.T.L.length:Int)) (fun y26 hy26=>?_) (fun k27 hk27=>?_)
        ·(try simp only [N] at hy26);refine Ok.chk ?_ ?_
         ·(try simp only [B]);omega
         refine Ok.bind (Ok.get ?_) (fun e38 he38=>?_)
         ·(try simp only [N]);omega
         have he38w:=wt_at he38;(try simp only [N] at he38w);refine Ok.join (fun y39:Bool=>True) (fun y39 hy39=>?_) (fun k40 hk40=>?_)
         ·refine Ok.join (fun y42:(List G.Out) × (List G.Note) × G.Server=>y42.1.length≤3∧wt y42.1≤1000∧wt y42.2.1≤15000∧wt y42.2.2≤wt a0+40000) (fun y42 hy42=>?_) (fun k43 hk43=>?_)
          ·(try simp only [N] at hy42);refine hk19 _ ?_;(try simp only [N]);omega
          refine Ok.cond' (fun h9=>?_) (fun h9=>?_)
          ·refine Ok.bind (spec_SessAck_t ?_) (fun r44 hr44=>?_)
           ·(try simp only [N]);omega
           (try simp only [N] at hr44);refine Ok.chk ?_ ?_
           ·(try simp only [B]);omega
           refine Ok.bind (Ok.get ?_) (fun e45 he45=>?_)
           ·(try simp only [N]);omega
           have he45w:=wt_at he45;(try simp only [N] at he45w);refine Ok.guard ?_ ?_
           ·(try simp only [N]);omega
           refine Ok.guard ?_ ?_
           ·(try simp only [N]);omega
           refine hk43 _ ?_;have:=wt_set_le y26.2.2.2.T.L y26.2.1.toNat r44.1;(try simp only [N] at this);(try simp only [N]);omega
          ·refine hk43 _ ?_;(try simp only [N]);omega
         refine Ok.cond' (fun h10=>?_) (fun h10=>?_)
         ·(try simp only [B] at h10);refine Ok.cond' (fun h11=>?_) (fun h11=>?_)
          ·(try simp only [B] at h11);refine Ok.bind (sameO_t ?_) (fun r41 hr41=>?_)
           ·(try simp only [N]);omega
           (try simp only [N] at hr41);exact hk40 _ trivial
          ·exact hk40 _ trivial
         ·exact hk40 _ trivial
        refine Ok.cond' (fun h12=>?_) (fun h12=>?_)
        ·(try simp only [B] at h12);refine Ok.bind (Ok.idx ?_ ?_) (fun e28 he28=>?_)
         ·(try have:=isub_eq (a:=r6.1.Id) (b:=1) (by omega) (by omega));(try simp only [N]);omega
         ·(try have:=isub_eq (a:=r6.1.Id) (b:=1) (by omega) (by omega));(try simp only [N]);omega
         have he28w:=wt_at he28;(try simp only [N] at he28w);refine Ok.bind (spec_SessNew_t ?_) (fun r29 hr29=>?_)
         ·(try simp only [N]);omega
         (try simp only [N] at hr29);refine Ok.bind (spec_AddSess_t ?_ ?_) (fun r30 hr30=>?_)
         ·(try simp only [N]);omega
         ·(try simp only [N]);omega
         (try simp only [N] at hr30);have hl:=wt_len r30.1.L;(try simp only [N] at hl);refine Ok.cond' (fun h13=>?_) (fun h13=>?_)
         ·(try simp only [B] at h13);refine Ok.some' ?_;(try simp only [N]);omega
         ·(try simp only [B] at h13);refine Ok.bind (spec_MintBody_t ?_ ?_) (fun r31 hr31=>?_)
          ·(try simp only [N]);omega
          ·(try simp only [N]);omega
          (try simp only [N] at hr31);refine Ok.bind (spec_Took_t ?_ ?_ ?_) (fun r32 hr32=>?_)
          ·(try simp only [N]);omega
          ·(try simp only [N]);omega
          ·(try simp only [N]);omega
          (try simp only [N] at hr32);refine Ok.guard ?_ ?_
          ·(try simp only [N]);omega
          refine Ok.bind (Ok.idx ?_ ?_) (fun e33 he33=>?_)
          ·(try have:=isub_eq (a:=r6.1.Id) (b:=1) (by omega) (by omega));(try simp only [N]);omega
          ·(try have:=isub_eq (a:=r6.1.Id) (b:=1) (by omega) (by omega));(try simp only [N]);omega
          have he33w:=wt_at he33;(try simp only [N] at he33w);refine Ok.bind (spec_FinishKey_t) (fun r34 hr34=>?_);(try simp only [N] at hr34);refine Ok.bind (spec_ProofBody_t ?_ ?_ ?_) (fun r35 hr35=>?_)
          ·(try simp only [N]);omega
          ·(try simp only [N]);omega
          ·(try simp only [N]);omega
          (try simp only [N] at hr35);refine Ok.bind (spec_Took_t ?_ ?_ ?_) (fun r36 hr36=>?_)
          ·(try simp only [N]);omega
          ·(try simp only [N]);omega
          ·(try simp only [N]);omega
          (try simp only [N] at hr36);refine Ok.guard ?_ ?_
          ·(try simp only [N]);omega
          refine Ok.guard ?_ ?_
          ·(try simp only [N]);omega
          refine Ok.guard ?_ ?_
          ·(try simp only [N]);omega
          refine Ok.guard ?_ ?_
          ·(try simp only [N]);omega
          refine Ok.guard ?_ ?_
          ·(try simp only [N]);omega
          refine hk27 _ ?_;(try have:=isub_eq (a:=(r30.1.L.length:Int)) (b:=1) (by omega) (by omega));(try simp only [N]);omega
        ·(try simp only [B] at h12);refine hk27 _ ?_;(try simp only [N]);omega
      refine Ok.bind (spec_Judge_t ?_) (fun r22 hr22=>?_)
      ·(try simp only [N]);omega
      (try simp only [N] at hr22);refine Ok.cond' (fun h14=>?_) (fun h14=>?_)
      ·exact hk21 _ fun h=>nomatch h
      ·(try simp only [B] at h14);refine Ok.cond' (fun h15=>?_) (fun h15=>?_)
       ·exact hk21 _ fun h=>nomatch h
       ·(try simp only [B] at h15);refine Ok.bind (Ok.idx ?_ ?_) (fun e23 he23=>?_)
        ·(try have:=isub_eq (a:=r6.1.Id) (b:=1) (by omega) (by omega));(try simp only [N]);omega
        ·(try have:=isub_eq (a:=r6.1.Id) (b:=1) (by omega) (by omega));(try simp only [N]);omega
        have he23w:=wt_at he23;(try simp only [N] at he23w);refine Ok.bind (spec_ProofOk_t ?_) (fun r24 hr24=>?_)
        ·(try simp only [N]);omega
        refine hk21 _ fun q16=>?_;(try simp only [B] at q16);(try simp only [N]);omega
     ·(try simp only [B] at h7);refine Ok.join (fun y46:(List G.Out) × (List G.Note) × G.Server × G.Server=>y46.1.length≤3∧wt y46.1≤2000∧wt y46.2.1≤20000∧wt y46.2.2.2≤wt a0+50000) (fun y46 hy46=>?_) (fun k47 hk47=>?_)
      ·(try simp only [N] at hy46);refine hk19 _ ?_;(try simp only [N]);omega
      refine Ok.cond' (fun h17=>?_) (fun h17=>?_)
      ·(try simp only [B] at h17);refine Ok.bind (findSnO_t ?_) (fun r48 hr48=>?_)
       ·(try simp only [N]);omega
       (try simp only [N] at hr48);refine Ok.join (fun y49:Bool=>y49=false→0≤r48) (fun y49 hy49=>?_) (fun k50 hk50=>?_)
       ·refine Ok.cond' (fun h18=>?_) (fun h18=>?_)
        ·refine Ok.some' ?_;(try simp only [N]);omega
        ·replace hy49:=hy49 h18;(try simp only [N] at hy49);refine Ok.bind (rollO_t ?_) (fun r52 hr52=>?_)
         ·(try simp only [N]);omega
         (try simp only [N] at hr52);refine Ok.bind (spec_MayAsk_t ?_) (fun r53 hr53=>?_)
         ·(try simp only [N]);omega
         refine Ok.join (fun y54:(List UInt8)=>y54.length≤32) (fun y54 hy54=>?_) (fun k55 hk55=>?_)
         ·(try simp only [N] at hy54)
          have hn:wt (noteRolled y54)=wt y54:=by simp only [noteRolled,wt_Note,wt_Addr,wt_bytes,List.length_nil];omega
          (try simp only [N] at hn);refine Ok.bind (Ok.idx ?_ ?_) (fun e56 he56=>?_)
          ·(try simp only [N]);omega
          ·(try simp only [N]);omega
          have he56w:=wt_at he56;(try simp only [N] at he56w);refine Ok.bind (spec_SessHear_t ?_ ?_ ?_) (fun r57 hr57=>?_)
          ·(try simp only [N]);omega
          ·(try simp only [N]);omega
          ·(try simp only [N]);omega
          (try simp only [N] at hr57);refine Ok.chk ?_ ?_
          ·(try simp only [B]);omega
          refine Ok.bind (Ok.get ?_) (fun e58 he58=>?_)
          ·(try simp only [N]);omega
          have he58w:=wt_at he58;(try simp only [N] at he58w);refine Ok.guard ?_ ?_
          ·(try simp only [N]);omega
          refine Ok.join (fun y59:(List G.Note) × G.Server=>wt y59.1≤200∧wt y59.2≤wt a0+40000) (fun y59 hy59=>?_) (fun k60 hk60=>?_)
          ·(try simp only [N] at hy59);refine Ok.guard ?_ ?_
           ·(try simp only [N]);omega
           refine Ok.join (fun y62:(List G.Note)=>wt y62≤20000) (fun y62 hy62=>?_) (fun k63 hk63=>?_)
           ·(try simp only [N] at hy62);refine hk47 _ ?_;(try simp only [N]);omega
           refine Ok.cond' (fun h19=>?_) (fun h19=>?_)
           ·(try simp only [B] at h19);refine Ok.guard ?_ ?_
            ·(try simp only [N]);omega
            refine Ok.guard ?_ ?_
            ·(try simp only [N]);omega
            refine Ok.guard ?_ ?_
            ·(try simp only [N]);omega
            refine hk63 _ ?_;(try simp only [N]);omega
           ·(try simp only [B] at h19);refine hk63 _ ?_;(try simp only [N]);omega
          refine Ok.cond' (fun h20=>?_) (fun h20=>?_)
          ·(try simp only [B] at h20);refine Ok.same (noteRolledO_s ?_) ?_
           ·(try simp only [N]);omega
           refine Ok.guard ?_ ?_
           ·(try simp only [N]);omega
           refine hk60 _ ?_;have:=wt_set_le a0.T.L r48.toNat r57.1;(try simp only [N] at this);(try simp only [N]);omega
          ·(try simp only [B] at h20);refine hk60 _ ?_;have:=wt_set_le a0.T.L r48.toNat r57.1;(try simp only [N] at this);(try simp only [N]);omega
         refine Ok.cond' (fun h21=>?_) (fun h21=>?_)
         ·(try simp only [B] at h21);refine hk55 _ ?_;(try simp only [N]);omega
         ·(try simp only [B] at h21);refine hk55 _ ?_;(try simp only [N]);omega
       refine Ok.cond' (fun h22=>?_) (fun h22=>?_)
       ·exact hk50 _ fun h=>nomatch h
       ·(try simp only [B] at h22);refine Ok.bind (Ok.idx ?_ ?_) (fun e51 he51=>?_)
        ·(try simp only [N]);omega
        ·(try simp only [N]);omega
        have he51w:=wt_at he51;(try simp only [N] at he51w);refine hk50 _ fun q23=>?_;(try simp only [B] at q23);(try simp only [N]);omega
      ·(try simp only [B] at h17);refine hk47 _ ?_;(try simp only [N]);omega
 refine Ok.bind (serverOkO_t ?_) (fun r4 hr4=>?_)
 ·(try simp only [N]);omega
 refine Ok.cond' (fun h24=>?_) (fun h24=>?_)
 ·exact hk3 _ fun h=>nomatch h
 ·(try simp only [B] at h24);replace hr4:=hr4 h24;(try simp only [N] at hr4);refine Ok.cond' (fun h25=>?_) (fun h25=>?_)
  ·exact hk3 _ fun h=>nomatch h
  ·(try simp only [B] at h25);refine hk3 _ fun q26=>?_;(try simp only [B] at q26);have f27:=addrOk_f q26;(try simp only [N] at f27);(try simp only [N]);omega
end Go.D
namespace Go.D
def wtAt {α:Type} [Wt α] (l:List α) (i:Nat):Nat:=match l[i]? with
  | some c=>wt c
  | none=>0
theorem wtAt_get {α:Type} [Wt α] {l:List α} {i:Nat} {x:α} (h:l[i]?=some x):wtAt l i=wt x:=by unfold wtAt;rw [h]
theorem wt_set_eq {α:Type} [Wt α] {x y:α}:∀ {l:List α} {i:Nat},l[i]?=some y→wt (l.set i x)+wt y=wt l+wt x
  | [],_,h=>by simp at h
  | z :: l,0,h=>by
    rw [List.getElem?_cons_zero] at h
    cases h
    rw [List.set_cons_zero,wt_cons,wt_cons];omega
  | z :: l,i+1,h=>by
    rw [List.getElem?_cons_succ] at h
    have:=wt_set_eq (x:=x) h
    rw [List.set_cons_succ,wt_cons,wt_cons];omega
theorem eventOk_f {e:G.Event} (h:eventOk e=true):1≤e.Kind∧e.Kind≤17∧0≤e.I∧0≤e.J∧0≤e.N∧e.B.length≤200∧e.Ops.length≤16:=by
  simp only [eventOk,Bool.and_eq_true,inR_true,decide_eq_true_eq] at h
  omega
theorem serverOk_new {s a b:List UInt8} {m:Int} (hs:1≤s.length∧s.length≤32) (ha:1≤a.length∧a.length≤32) (hb:1≤b.length∧b.length≤32) (hm:1≤m∧m≤6):serverOk (serverOf [a,b] s m)=true:=by
  have e0:inR (s.length:Int) 1 32=true:=inR_iff.2 ⟨by omega,by omega⟩
  have hd:diceOk ⟨s,0⟩=true:=by
    show (inR (s.length:Int) 1 32&&inR 0 0 10000)=true
    rw [e0];rfl
  have hr:rollD ⟨s,0⟩=(⟨s,iadd .i64 0 1⟩,diceAt s 0):=by
    rw [rollD,hd];rfl
  have hl:(diceAt s 0).length=12:=by
    rw [diceAt,e0]
    show (List.take 12 _).length=12
    rw [List.length_take,hmac_len (by omega) (by rw [roll_len];omega)];rfl
  have hj:jarOk (jarNew (diceAt s 0))=true:=by
    rw [jarNew,show isNonce (diceAt s 0)=true by rw [isNonce,hl];rfl]
    show (((derive (diceAt s 0) [106,97,114]).length:Int)==32)=true
    rw [derive_len (by omega) (by decide)];rfl
  have ht:tabNew m=⟨m,[]⟩:=by rw [tabNew,inR_iff.2 hm];rfl
  have hp:pskOk a=true∧pskOk b=true:=⟨inR_iff.2 (by omega),inR_iff.2 (by omega)⟩
  have hto:tabOk ⟨m,[]⟩=true:=by
    show (inR m 1 6&&true&&decide ((0:Int)≤m)&&true)=true
    rw [inR_iff.2 hm,decide_eq_true (by omega)];rfl
  have h1:iadd .i64 0 1=1:=rfl
  show (inR 2 1 9&&jarOk (jarNew (rollD ⟨s,0⟩).2)&&diceOk (rollD ⟨s,0⟩).1&&tabOk (tabNew m)&&true&&!(!pskOk a||(!pskOk b||false))&&!((tabNew m).L.any fun e=>decide (e.Id>2)))=true
  rw [hr,ht,hto,hp.1,hp.2]
  simp only
  rw [hj,h1]
  show (true&&true&&(inR (s.length:Int) 1 32&&inR 1 0 10000)&&true&&true&&true&&true)=true
  rw [e0];rfl
theorem worldNewO_t {s a b:List UInt8} {m:Int} (h:s.length=8∧a.length=6∧b.length=9) (hm:1≤m∧m≤3):Ok (worldNewO s a b m) fun r=>wt r≤4000∧TW r:=by
  have hL:=LIM_is
  have hw:=worldNew_wt s a b m
  rw [wt_bytes,wt_bytes,wt_bytes] at hw
  refine pt_t (by rw [wt_bytes,wt_bytes,wt_bytes];omega) ⟨by omega,?_⟩
  have hs:=serverOk_new (s:=s) (a:=a) (b:=b) (m:=m) (by omega) (by omega) (by omega) (by omega)
  rw [worldNew,hs]
  obtain ⟨_,ka,kb,_⟩:=worldOf_ok hs
  show [clientNew 1 a (near 1),clientNew 2 b (near 2)].length=2∧(clientNew 1 a (near 1)).Id=1∧(clientNew 2 b (near 2)).Id=2
  rw [ka,kb]
  exact ⟨rfl,rfl,rfl⟩
theorem cutO_t {b:List UInt8} {f n:Int} (h:b.length≤LIM):Ok (cutO b f n) fun r=>r.1.length≤b.length:=pt_t (by rw [wt_bytes];exact h) (by
  unfold cut
  cases decide (f<0)||(decide (n<0)||(decide (f>(b.length:Int))||decide (n>(b.length:Int) - f)))
  · rw [cond_false]
    simp only [List.length_take,List.length_drop];omega
  · exact Nat.zero_le _)
theorem spec_cut_raw (b:List UInt8) (f n:Int) (h:wt b≤LIM) (hf:Fits .i64 f) (hn:Fits .i64 n):spec_Cut.raw b f n=some (cut b f n):=by
  have hl:b.length≤LIM:=by rw [← wt_bytes];exact h
  have hL:=LIM_is
  have hf:=fits_i64 hf
  have hn:=fits_i64 hn
  simp only [spec_Cut.raw,joinK,cut,List.nil_append]
  by_cases h2:n<0
  · rw [decide_eq_true h2]
    cases decide (f<0) <;> rfl
  by_cases h1:f<0
  · rw [decide_eq_false h2,decide_eq_true h1];rfl
  by_cases h3:n>(b.length:Int)
  · have h4:(decide (f>(b.length:Int))||decide (n>(b.length:Int) - f))=true:=by simp;omega
    rw [decide_eq_false h2,decide_eq_false h1,decide_eq_true h3,h4];rfl
  have e:isub .i64 (b.length:Int) n=(b.length:Int) - n:=by rw [isub,wrap_i64 (by omega) (by omega)]
  rw [e]
  by_cases h4:f>(b.length:Int) - n
  · have h5:(decide (f>(b.length:Int))||decide (n>(b.length:Int) - f))=true:=by simp;omega
    rw [decide_eq_false h2,decide_eq_false h1,decide_eq_false h3,decide_eq_true h4,h5];rfl
  have e2:iadd .i64 f n=f+n:=by rw [iadd,wrap_i64 (by omega) (by omega)]
  have e3:(decide (0≤f)&&decide (f≤f+n)&&decide (f+n≤(b.length:Int)))=true:=by simp;omega
  have h5:(decide (f>(b.length:Int))||decide (n>(b.length:Int) - f))=false:=by simp;omega
  rw [decide_eq_false h1,decide_eq_false h2,decide_eq_false h3,decide_eq_false h4,h5]
  simp only [cond_false,e2]
  rw [e3,show f+n - f=n by omega]
  have:((b.drop f.toNat).take n.toNat).length≤LIM:=by rw [List.length_take,List.length_drop];omega
  rw [List.length_nil,Nat.zero_add,decide_eq_true this];rfl
theorem spec_Cut.ok {x:TyTup [.sl .byte, .v .int, .v .int]} (hb:bdTup [.sl .byte, .v .int, .v .int] x) {r:List UInt8 × Bool}:cutO x.1 x.2.1 x.2.2=some r→spec_Cut.raw x.1 x.2.1 x.2.2=some r:=pt_ok fun h=>
  spec_cut_raw x.1 x.2.1 x.2.2 h (bdx_fits hb.2.1 0 (by decide) rfl) (bdx_fits hb.2.2 0 (by decide) rfl)
end Go.D

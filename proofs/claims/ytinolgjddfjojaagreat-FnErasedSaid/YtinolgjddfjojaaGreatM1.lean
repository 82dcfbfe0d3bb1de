/-
  When a text has a result, its total form gives it.
-/
import Derived.Test.YtinolgjddfjojaaGreatN10
import Derived.Test.YtinolgjddfjojaaGreatL8
import Derived.Test.YtinolgjddfjojaaGreatN8
namespace Go.D
def Le {R:Type} (a b:Option R):Prop:=∀ r,a=some r→b=some r
theorem wrap_bd (n:Int): -9223372036854775808≤IntKind.wrap .i64 n∧IntKind.wrap .i64 n≤9223372036854775807:=by
  have:=wrap_fits .i64 n
  simpa [Fits,IntKind.min,IntKind.max,IntKind.signed,IntKind.bits] using this
def iter0 {σ:Type} (step:σ→σ):Nat→σ→σ
  | 0,x=>x
  | n+1,x=>iter0 step n (step x)
theorem iter_ex (σ:Type):∃ it:(σ→σ)→Nat→σ→σ,it=iter0:=⟨_,rfl⟩
noncomputable def iter {σ:Type}:(σ→σ)→Nat→σ→σ:=Classical.choose (iter_ex σ)
theorem iter_is {σ:Type}: @iter σ=iter0:=Classical.choose_spec (iter_ex σ)
theorem iter_zero {σ:Type} (s:σ→σ) (x:σ):iter s 0 x=x:=by rw [iter_is];rfl
theorem iter_succ {σ:Type} (s:σ→σ) (n:Nat) (x:σ):iter s (n+1) x=iter s n (s x):=by rw [iter_is];rfl
namespace Le
variable {R σ α:Type}
theorem rfl {a:Option R}:Le a a:=fun _ h=>h
theorem trans {a b c:Option R} (h:Le a b) (k:Le b c):Le a c:=fun r hr=>k r (h r hr)
theorem nn {b:Option R}:Le Option.none b:=fun _ h=>nomatch h
theorem g {b:Bool} {x z:Option R} (h:Le x z):Le (cond b x Option.none) z:=fun r hr=>by
  cases b
  · cases hr
  · exact h r hr
theorem g' {b:Bool} {x z:Option R} (h:Le x z):Le (cond b Option.none x) z:=fun r hr=>by
  cases b
  · exact h r hr
  · cases hr
theorem c {b:Bool} {x y:Option R} {k:σ→Option R} {X Y:σ} (h:Le x (k X)) (h':Le y (k Y)):Le (cond b x y) (k (cond b X Y)):=by
  cases b
  · exact h'
  · exact h
theorem cs {b:Bool} {x y:Option R} {X Y:R} (h:Le x (some X)) (h':Le y (some Y)):Le (cond b x y) (some (cond b X Y)):=c h h'
theorem or {a b:Bool} {y:Option R} {k:Bool→Option R} (h:Le y (k b)):Le (cond a (k true) y) (k (a||b)):=by
  cases a
  · exact h
  · exact rfl
theorem and {a b:Bool} {x:Option R} {k:Bool→Option R} (h:Le x (k b)):Le (cond a x (k false)) (k (a&&b)):=by
  cases a
  · exact rfl
  · exact h
theorem b {e:Option α} {y:α} {f:α→Option R} {z:Option R} (h:∀ v,e=some v→v=y) (k:Le (f y) z):Le (Option.bind e f) z:=fun r hr=>by
  obtain ⟨v,h1,h2⟩:=Option.bind_eq_some_iff.1 hr
  rw [h v h1] at h2
  exact k r h2
theorem j {K:σ→Option R} {body:(σ→Option R)→Option R} {Y:σ} {z:Option R} (h:∀ k:σ→Option R,Le (body k) (k Y)) (h':Le (K Y) z):Le (joinK K body) z:=fun r hr=>h' r (h K r hr)
theorem jd {K:σ→Option R} {body:(σ→Option R)→Option R} {G:σ→R} {z:Option R} (hK:∀ y,Le (K y) (some (G y))) (hb:∀ k:σ→Option R,(∀ y,Le (k y) (some (G y)))→Le (body k) z):Le (joinK K body) z:=hb K hK
theorem j0 {K:σ→Option R} {body:(σ→Option R)→Option R} {z:Option R} (h:Le (body K) z):Le (joinK K body) z:=h
theorem out {a:Option R} {x:R} (h:Le a (some x)):∀ {r:R},a=some r→r=x:=fun {r} hr=>(Option.some.inj (h r hr)).symm
theorem loop {f:σ→(σ→Option R)→Option R} {g:σ→Option R} (h:∀ x rec,(∀ y,Le (rec y) (g y))→Le (f x rec) (g x)):∀ (n:Nat) (x:σ),Le (loopK n f x) (g x)
  | 0,_=>nn
  | n+1,x=>h x _ (loop h n)
theorem cc {b:Bool} {x y x' y':Option R} (h:Le x x') (h':Le y y'):Le (cond b x y) (cond b x' y'):=by
  cases b
  · exact h'
  · exact h
theorem it {step:σ→σ} {ix:σ→Int} {N:Int} {th:σ→(σ→Option R)→Option R} {out:σ→Option R} {x0:σ} {z:Option R}
    (hf:∀ x rec,Le (th x rec) (rec (step x))) (hz:Le (out (iter step N.toNat x0)) z) (h0:ix x0=0) (hstep:∀ x,ix (step x)=iadd .i64 (ix x) 1):
    Le (loopK FU (fun x rec=>cond (decide (ix x<N)) (th x rec) (out x)) x0) z:=by
  have big:9223372036854775807<N→∀ (n:Nat) (x:σ),ix x≤9223372036854775807→∀ z,Le (loopK n (fun x rec=>cond (decide (ix x<N)) (th x rec) (out x)) x) z:=by
    intro hN n
    induction n with
    | zero=>intro x _ _;exact nn
    | succ n ih=>
      intro x hx z r hr
      replace hr:cond (decide (ix x<N)) (th x _) (out x)=some r:=hr
      rw [decide_eq_true (by omega),cond_true] at hr
      exact ih (step x) (by rw [hstep];exact (wrap_bd _).2) z r (hf _ _ _ hr)
  have go:∀ (n:Nat) (x:σ),0≤ix x→N≤9223372036854775807→Le (loopK n (fun x rec=>cond (decide (ix x<N)) (th x rec) (out x)) x) (out (iter step (N - ix x).toNat x)):=by
    intro n
    induction n with
    | zero=>intro x _ _;exact nn
    | succ n ih=>
      intro x hx hN r hr
      replace hr:cond (decide (ix x<N)) (th x _) (out x)=some r:=hr
      by_cases hlt:ix x<N
      · rw [decide_eq_true hlt,cond_true] at hr
        have hs:=hstep x
        have e:iadd .i64 (ix x) 1=ix x+1:=wrap_i64 (by omega) (by omega)
        rw [e] at hs
        have:=ih (step x) (by omega) hN r (hf _ _ _ hr)
        rw [show (N - ix x).toNat=(N - ix (step x)).toNat+1 by omega,iter_succ]
        exact this
      · rw [decide_eq_false hlt,cond_false] at hr
        rw [show (N - ix x).toNat=0 by omega,iter_zero]
        exact hr
  by_cases hN:N≤9223372036854775807
  · have:=go FU x0 (by omega) hN
    rw [h0,Int.sub_zero] at this
    exact this.trans hz
  · exact big (by omega) FU x0 (by omega) z
theorem dn {step:σ→σ} {ix:σ→Int} {th:σ→(σ→Option R)→Option R} {out:σ→Option R} {x0:σ} {z:Option R}
    (hf:∀ x rec,Le (th x rec) (rec (step x))) (hz:Le (out (iter step (ix x0).toNat x0)) z) (h0:ix x0≤9223372036854775807) (hstep:∀ x,ix (step x)=isub .i64 (ix x) 1):
    Le (loopK FU (fun x rec=>cond (decide (ix x>0)) (th x rec) (out x)) x0) z:=by
  have go:∀ (n:Nat) (x:σ),ix x≤9223372036854775807→Le (loopK n (fun x rec=>cond (decide (ix x>0)) (th x rec) (out x)) x) (out (iter step (ix x).toNat x)):=by
    intro n
    induction n with
    | zero=>intro x _;exact nn
    | succ n ih=>
      intro x hx r hr
      replace hr:cond (decide (ix x>0)) (th x _) (out x)=some r:=hr
      by_cases hlt:ix x>0
      · rw [decide_eq_true hlt,cond_true] at hr
        have hs:=hstep x
        have e:isub .i64 (ix x) 1=ix x - 1:=wrap_i64 (by omega) (by omega)
        rw [e] at hs
        have:=ih (step x) (by omega) r (hf _ _ _ hr)
        rw [show (ix x).toNat=(ix (step x)).toNat+1 by omega,iter_succ]
        exact this
      · rw [decide_eq_false hlt,cond_false] at hr
        rw [show (ix x).toNat=0 by omega,iter_zero]
        exact hr
  exact (go FU x0 h0).trans hz
end Le
theorem pt_d {α:Type} {P:Prop} {v r:α} (h:pt P v=some r):r=v:=by
  unfold pt at h
  split at h
  · exact (Option.some.inj h).symm
  · cases h
theorem getD_d {α:Type} [Inhabited α] {o:Option α} {r:α} (h:o=some r):r=o.getD default:=by rw [h];rfl
end Go.D
namespace Go.D
noncomputable section
instance:Inhabited G.Addr:=⟨⟨0,0⟩⟩
instance:Inhabited G.Cand:=⟨⟨default,[],0⟩⟩
instance:Inhabited G.Paths:=⟨⟨default,[]⟩⟩
instance:Inhabited G.Win:=⟨⟨0,[]⟩⟩
instance:Inhabited G.Ep:=⟨⟨0,[],0,default⟩⟩
instance:Inhabited G.Chan:=⟨⟨0,[],default,default,false,0,[]⟩⟩
instance:Inhabited G.Sess:=⟨⟨0,[],[],default,default,0,0,false⟩⟩
instance:Inhabited G.Tab:=⟨⟨0,[]⟩⟩
instance:Inhabited G.Credit:=⟨⟨default,0,0⟩⟩
instance:Inhabited G.Frame:=⟨⟨0,0,[],[],0,[],[],0,0,[],[]⟩⟩
instance:Inhabited G.Out:=⟨⟨default,default⟩⟩
instance:Inhabited G.Timer:=⟨⟨false,0,0,0⟩⟩
instance:Inhabited G.Client:=⟨⟨0,[],default,0,[],default,default,default,default,0⟩⟩
instance:Inhabited G.Wire:=⟨⟨default,default,[]⟩⟩
instance:Inhabited G.Note:=⟨⟨0,0,0,[],[],0,0,[],[],default,0⟩⟩
instance:Inhabited G.Op:=⟨⟨0,0,0,[]⟩⟩
instance:Inhabited G.Event:=⟨⟨0,0,0,0,[],[]⟩⟩
instance:Inhabited G.Cur:=⟨⟨[],0,0⟩⟩
def tl26New (a0:G.Cur):G.World × G.Cur:=(let r1:=(spec_l1Bytes.raw a0 8).getD default
  (let r2:=(spec_l1Bytes.raw r1.2 6).getD default
  (let r3:=(spec_l1Bytes.raw r2.2 9).getD default
  (let r4:=(spec_l1Below.raw r3.2 3).getD default
  (let r5:=worldNew r1.1 r2.1 r3.1 (iadd .i64 1 r4.1)
  (r5,r4.2))))))
theorem spec_l26New_d {a0:G.Cur} {r:G.World × G.Cur}:spec_l26New.raw a0=some r→r=tl26New a0:=Le.out (by unfold spec_l26New.raw tl26New;exact .b (fun _=>getD_d) (.b (fun _=>getD_d) (.b (fun _=>getD_d) (.b (fun _=>getD_d) (.b (fun _=>pt_d) .rfl)))))
def tHeadOf (a0:Int) (a1:List UInt8) (a2:Int) (a3:Int):List UInt8:=(let y1:Bool:=((!(inR a0 0 1))||(((a1.length:Int) !=12)||((!(inR a2 0 4294967295))||(!(inR a3 0 281474976710655)))))
  (bif y1 then [] else 
  (let r3:=putN ([UInt8.ofNat (IntKind.wrap .u8 a0:Int).toNat]++a1) a2 4
  (let r4:=putN r3 a3 6
 r4))))
theorem spec_HeadOf_d {a0:Int} {a1:List UInt8} {a2:Int} {a3:Int} {r:List UInt8}:spec_HeadOf.raw a0 a1 a2 a3=some r→r=tHeadOf a0 a1 a2 a3:=Le.out (by unfold spec_HeadOf.raw tHeadOf;exact .j (fun _=> .or (.or (.or .rfl))) (.cs .rfl (.g (.b (fun _=>pt_d) (.b (fun _=>pt_d) .rfl)))))
def tMix (a0:List UInt8) (a1:List UInt8) (a2:List UInt8):List UInt8:=(let y1:Bool:=((decide ((a2.length:Int)>200))||((decide ((a1.length:Int)>100))||(decide ((a0.length:Int)>1048576))))
  (bif y1 then [] else 
  (let r3:=(spec_Stream.raw a0 a1 (a2.length:Int)).getD default
  (let y4:(List UInt8):= 
  (let x6:=iter (fun (x6:(List UInt8) × Int)=> 
  (let e8:=(idxI a2 x6.2).getD default
  (let e9:=(r3[x6.2.toNat]?).getD default
  (let x10:Int:=ixor .u8 ((e8.toNat:Nat):Int) ((e9.toNat:Nat):Int)
  ((x6.1++[UInt8.ofNat (x10:Int).toNat]),(iadd .i64 x6.2 1)))))) ((a2.length:Int):Int).toNat ([],0)
 x6.1)
 y4))))
theorem spec_Mix_d {a0:List UInt8} {a1:List UInt8} {a2:List UInt8} {r:List UInt8}:spec_Mix.raw a0 a1 a2=some r→r=tMix a0 a1 a2:=Le.out (by unfold spec_Mix.raw tMix;exact .j (fun _=> .or (.or .rfl)) (.cs .rfl (.b (fun _=>getD_d) (.j (fun _=> .it (fun _ _=> .b (fun _=>getD_d) (.g (.b (fun _=>getD_d) (.g .rfl)))) .rfl rfl (fun _=>rfl)) .rfl))))
def tTagInput (a0:Int) (a1:G.Frame):List UInt8:=(let y1:Bool:=((!(inR a0 0 1))||((!(frameOk a1))||(!(isSealed a1.Kind))))
  (bif y1 then [] else 
  (let r3:=tHeadOf a0 a1.Sn a1.Epoch a1.Seq
  (let x4:List UInt8:=([UInt8.ofNat (116:Int).toNat]++r3)++[UInt8.ofNat (IntKind.wrap .u8 a1.Kind:Int).toNat]
  (x4++a1.Body)))))
theorem spec_TagInput_d {a0:Int} {a1:G.Frame} {r:List UInt8}:spec_TagInput.raw a0 a1=some r→r=tTagInput a0 a1:=Le.out (by unfold spec_TagInput.raw tTagInput;exact .j (fun _=> .or (.or .rfl)) (.cs .rfl (.b (fun _=>spec_HeadOf_d) (.g (.g (.g .rfl))))))
def tTag (a0:List UInt8) (a1:List UInt8):List UInt8:=(let r1:(List UInt8):=hmac a0 a1
  (bif decide ((r1.length:Int)<16) then [] else ((List.take 16 (List.drop 0 r1)))))
theorem spec_Tag_d {a0:List UInt8} {a1:List UInt8} {r:List UInt8}:spec_Tag.raw a0 a1=some r→r=tTag a0 a1:=Le.out (by unfold spec_Tag.raw tTag;exact .cs .rfl (.g (.g .rfl)))
def tSeal (a0:List UInt8) (a1:Int) (a2:List UInt8) (a3:Int) (a4:Int) (a5:Int) (a6:List UInt8):G.Frame × Bool:=(let r1:=tHeadOf a1 a2 a3 a4
  (let y2:Bool:=(((a0.length:Int) !=32)||(((r1.length:Int)==0)||((!(isSealed a5))||(!(bodyOk a5 (a6.length:Int))))))
  (bif y2 then ((⟨0,0,[],[],0,[],[],0,0,[],[]⟩:G.Frame),false) else 
  (let r4:=tMix a0 r1 a6
  (let y5:G.Frame:= 
  (let x7:=iter (fun (x7:Int × G.Frame)=>((iadd .i64 x7.1 1),(⟨x7.2.Kind,x7.2.Id,x7.2.Cn,x7.2.Sn,x7.2.Tick,x7.2.Cookie,x7.2.Proof,x7.2.Epoch,x7.2.Seq,x7.2.Body,x7.2.Tag++[UInt8.ofNat (0:Int).toNat]⟩:G.Frame))) (16:Int).toNat (0,(⟨a5,0,[],a2,0,[],[],a3,a4,r4,[]⟩:G.Frame))
 x7.2)
  (let r9:=tTagInput a1 y5
  (let r10:=tTag a0 r9
  ((⟨y5.Kind,y5.Id,y5.Cn,y5.Sn,y5.Tick,y5.Cookie,y5.Proof,y5.Epoch,y5.Seq,y5.Body,r10⟩:G.Frame),true))))))))
theorem spec_Seal_d {a0:List UInt8} {a1:Int} {a2:List UInt8} {a3:Int} {a4:Int} {a5:Int} {a6:List UInt8} {r:G.Frame × Bool}:spec_Seal.raw a0 a1 a2 a3 a4 a5 a6=some r→r=tSeal a0 a1 a2 a3 a4 a5 a6:=Le.out (by unfold spec_Seal.raw tSeal;exact .b (fun _=>spec_HeadOf_d) (.j (fun _=> .or (.or (.or .rfl))) (.cs .rfl (.g (.b (fun _=>spec_Mix_d) (.j (fun _=> .it (fun _ _=> .g .rfl) .rfl rfl (fun _=>rfl)) (.b (fun _=>spec_TagInput_d) (.b (fun _=>spec_Tag_d) .rfl))))))))
def tTimerSet (a0:Int):G.Timer:=(bif !(inR a0 0 1000000) then (⟨false,0,0,0⟩:G.Timer) else (⟨true,iadd .i64 a0 1,1,1⟩:G.Timer))
theorem spec_TimerSet_d {a0:Int} {r:G.Timer}:spec_TimerSet.raw a0=some r→r=tTimerSet a0:=Le.out (by unfold spec_TimerSet.raw tTimerSet;exact .cs .rfl .rfl)
def tl19Init (a0:G.Client):G.Frame:=(⟨1,a0.Id,a0.Cn,[],0,[],[],0,0,[],[]⟩:G.Frame)
theorem spec_l19Init_d {a0:G.Client} {r:G.Frame}:spec_l19Init.raw a0=some r→r=tl19Init a0:=Le.out (by unfold spec_l19Init.raw tl19Init;exact .g .rfl)
def tDial (a0:G.Client) (a1:Int) (a2:List UInt8):G.Client × (List G.Frame) × (List G.Note) × Int:=(let y2:Bool:= 
  (let r4:=clientOk a0
  ((!r4)||((!(inR a1 0 1000000))||((a2.length:Int) !=12))))
  (bif y2 then (a0,[],[],1) else (bif a0.St !=0 then (a0,[],[],6) else 
  (let r5:=tTimerSet a1
  (let r6:=tl19Init (⟨a0.Id,a0.Psk,a0.At,1,a2,a0.Fin,a0.C,r5,a0.R,a0.Last⟩:G.Client)
  (let x7:List G.Note:=[(⟨1,a0.Id,0,a2,[],0,0,[],[],(⟨0,0⟩:G.Addr),a1⟩:G.Note)]
  ((⟨a0.Id,a0.Psk,a0.At,1,a2,a0.Fin,a0.C,r5,a0.R,a0.Last⟩:G.Client),[r6],x7,0)))))))
theorem spec_Dial_d {a0:G.Client} {a1:Int} {a2:List UInt8} {r:G.Client × (List G.Frame) × (List G.Note) × Int}:spec_Dial.raw a0 a1 a2=some r→r=tDial a0 a1 a2:=Le.out (by unfold spec_Dial.raw tDial;exact .b (fun _=>pt_d) (.j (fun _=> .b (fun _=>pt_d) (.or (.or .rfl))) (.cs .rfl (.cs .rfl (.g (.b (fun _=>spec_TimerSet_d) (.g (.b (fun _=>spec_l19Init_d) .rfl))))))))
def tPutFrame (a0:G.Frame):List UInt8:=(bif !(frameOk a0) then [] else 
  (let y1:(List UInt8):=(bif a0.Kind==1 then 
  (let x3:List UInt8:=[UInt8.ofNat (IntKind.wrap .u8 a0.Kind:Int).toNat]++[UInt8.ofNat (IntKind.wrap .u8 a0.Id:Int).toNat]
  (let x6:=iter (fun (x6:(List UInt8) × Int)=>((x6.1++[UInt8.ofNat (0:Int).toNat]),(iadd .i64 x6.2 1))) (20:Int).toNat ((x3++a0.Cn),0)
 x6.1)) else (bif a0.Kind==2 then 
  (let x10:List UInt8:=[UInt8.ofNat (IntKind.wrap .u8 a0.Kind:Int).toNat]++a0.Cn
  (let r11:=putN (x10++a0.Sn) a0.Tick 4
  (r11++a0.Cookie))) else (bif a0.Kind==3 then 
  (let x14:List UInt8:=[UInt8.ofNat (IntKind.wrap .u8 a0.Kind:Int).toNat]++[UInt8.ofNat (IntKind.wrap .u8 a0.Id:Int).toNat]
  (let r15:=putN ((x14++a0.Cn)++a0.Sn) a0.Tick 4
  ((r15++a0.Cookie)++a0.Proof))) else 
  (let x16:List UInt8:=[UInt8.ofNat (IntKind.wrap .u8 a0.Kind:Int).toNat]++a0.Sn
  (let r17:=putN x16 a0.Epoch 4
  (let r18:=putN r17 a0.Seq 6
  ((r18++a0.Tag)++a0.Body)))))))
 y1))
theorem spec_PutFrame_d {a0:G.Frame} {r:List UInt8}:spec_PutFrame.raw a0=some r→r=tPutFrame a0:=Le.out (by unfold spec_PutFrame.raw tPutFrame;exact .cs .rfl (.j (fun _=> .c (.g (.g (.j (fun _=> .it (fun _ _=> .g .rfl) .rfl rfl (fun _=>rfl)) .rfl))) (.j (fun _=> .c (.g (.g (.b (fun _=>pt_d) (.g .rfl)))) (.j (fun _=> .c (.g (.g (.g (.b (fun _=>pt_d) (.g (.g .rfl)))))) (.g (.b (fun _=>pt_d) (.b (fun _=>pt_d) (.g (.g .rfl)))))) .rfl)) .rfl)) .rfl))
def tWireFrom (a0:G.Addr) (a1:G.Addr) (a2:G.Frame):G.Wire:=(let r1:=tPutFrame a2
  (⟨a0,a1,r1⟩:G.Wire))
theorem spec_WireFrom_d {a0:G.Addr} {a1:G.Addr} {a2:G.Frame} {r:G.Wire}:spec_WireFrom.raw a0 a1 a2=some r→r=tWireFrom a0 a1 a2:=Le.out (by unfold spec_WireFrom.raw tWireFrom;exact .b (fun _=>spec_PutFrame_d) .rfl)
def tl25Sent (a0:G.Client) (a1:List G.Frame):List G.Wire:=(let y1:(List G.Wire):= 
  (let x3:=iter (fun (x3:(List G.Wire) × Int)=> 
  (let r5:G.Addr:=hub
  (let e6:=(idxI a1 x3.2).getD default
  (let r7:=tWireFrom a0.At r5 e6
  ((x3.1++[r7]),(iadd .i64 x3.2 1)))))) ((a1.length:Int):Int).toNat ([],0)
 x3.1)
 y1)
theorem spec_l25Sent_d {a0:G.Client} {a1:List G.Frame} {r:List G.Wire}:spec_l25Sent.raw a0 a1=some r→r=tl25Sent a0 a1:=Le.out (by unfold spec_l25Sent.raw tl25Sent;exact .j (fun _=> .it (fun _ _=> .b (fun _=>getD_d) (.b (fun _=>spec_WireFrom_d) (.g .rfl))) .rfl rfl (fun _=>rfl)) .rfl)
def tl26See (a0:G.World) (a1:List G.Wire) (a2:List G.Note):G.World:=(let y1:G.World:= 
  (let x3:=iter (fun (x3:Int × G.World)=> 
  (let y5:G.World:=(bif decide ((x3.2.Seen.length:Int)<90) then 
  (let e7:=(idxI a1 x3.1).getD default
  (⟨x3.2.Now,x3.2.Clients,x3.2.S,x3.2.D,x3.2.Seen++[e7],x3.2.Known,x3.2.Notes⟩:G.World)) else x3.2)
  ((iadd .i64 x3.1 1),y5))) ((a1.length:Int):Int).toNat (0,a0)
 x3.2)
  (⟨y1.Now,y1.Clients,y1.S,y1.D,y1.Seen,y1.Known,y1.Notes++a2⟩:G.World))
theorem spec_l26See_d {a0:G.World} {a1:List G.Wire} {a2:List G.Note} {r:G.World}:spec_l26See.raw a0 a1 a2=some r→r=tl26See a0 a1 a2:=Le.out (by unfold spec_l26See.raw tl26See;exact .j (fun _=> .it (fun _ _=> .j (fun _=> .c (.b (fun _=>getD_d) (.g .rfl)) .rfl) .rfl) .rfl rfl (fun _=>rfl)) (.g .rfl))
def tl26Client (a0:G.World) (a1:Int) (a2:G.Client) (a3:List G.Frame) (a4:List G.Note):G.World:=(let e1:=(a0.Clients[a1.toNat]?).getD default
  (let r2:=tl25Sent a2 a3
  (let r3:=tl26See (⟨a0.Now,List.set a0.Clients a1.toNat a2,a0.S,a0.D,a0.Seen,a0.Known,a0.Notes⟩:G.World) r2 a4
 r3)))
theorem spec_l26Client_d {a0:G.World} {a1:Int} {a2:G.Client} {a3:List G.Frame} {a4:List G.Note} {r:G.World}:spec_l26Client.raw a0 a1 a2 a3 a4=some r→r=tl26Client a0 a1 a2 a3 a4:=Le.out (by unfold spec_l26Client.raw tl26Client;exact .g (.b (fun _=>getD_d) (.b (fun _=>spec_l25Sent_d) (.b (fun _=>spec_l26See_d) .rfl))))
def tEpSeal (a0:G.Ep) (a1:Int) (a2:List UInt8) (a3:Int) (a4:List UInt8):G.Ep × G.Frame × Int:=(let y2:Bool:=((!(epOk a0))|| 
  (let r4:=tHeadOf a1 a2 a0.N 0
  (((r4.length:Int)==0)||((!(isSealed a3))||(!(bodyOk a3 (a4.length:Int)))))))
  (bif y2 then (a0,(⟨0,0,[],[],0,[],[],0,0,[],[]⟩:G.Frame),1) else 
  (let y5:Bool:=((a3==4)&&(decide (a0.Seq≥281474976709656)))
  (bif y5 then (a0,(⟨0,0,[],[],0,[],[],0,0,[],[]⟩:G.Frame),4) else (bif a0.Seq==281474976710656 then (a0,(⟨0,0,[],[],0,[],[],0,0,[],[]⟩:G.Frame),5) else 
  (let r7:=tSeal a0.Key a1 a2 a0.N a0.Seq a3 a4
  ((⟨a0.N,a0.Key,iadd .i64 a0.Seq 1,a0.Win⟩:G.Ep),r7.1,0)))))))
theorem spec_EpSeal_d {a0:G.Ep} {a1:Int} {a2:List UInt8} {a3:Int} {a4:List UInt8} {r:G.Ep × G.Frame × Int}:spec_EpSeal.raw a0 a1 a2 a3 a4=some r→r=tEpSeal a0 a1 a2 a3 a4:=Le.out (by unfold spec_EpSeal.raw tEpSeal;exact .b (fun _=>pt_d) (.j (fun _=> .or (.b (fun _=>spec_HeadOf_d) (.or (.or .rfl)))) (.cs .rfl (.j (fun _=> .and .rfl) (.cs .rfl (.cs .rfl (.b (fun _=>spec_Seal_d) .rfl)))))))
def tChanSeal (a0:G.Chan) (a1:Int) (a2:List UInt8):G.Chan × G.Frame × Int:=(let r2:=chanOk a0
  (bif !r2 then (a0,(⟨0,0,[],[],0,[],[],0,0,[],[]⟩:G.Frame),1) else 
  (let r3:=tEpSeal a0.Cur a0.Role a0.Sn a1 a2
  (let y4:G.Chan:=(bif r3.2.2==0 then (⟨a0.Role,a0.Sn,r3.1,a0.Old,a0.HasOld,a0.Until,a0.Next⟩:G.Chan) else a0)
  (y4,r3.2.1,r3.2.2)))))
theorem spec_ChanSeal_d {a0:G.Chan} {a1:Int} {a2:List UInt8} {r:G.Chan × G.Frame × Int}:spec_ChanSeal.raw a0 a1 a2=some r→r=tChanSeal a0 a1 a2:=Le.out (by unfold spec_ChanSeal.raw tChanSeal;exact .b (fun _=>pt_d) (.b (fun _=>pt_d) (.cs .rfl (.b (fun _=>spec_EpSeal_d) (.j (fun _=> .c .rfl .rfl) .rfl)))))
def tMade (a0:List UInt8) (a1:List UInt8):G.Note:=(⟨15,0,0,[],[],0,0,a1,a0,(⟨0,0⟩:G.Addr),0⟩:G.Note)
theorem spec_Made_d {a0:List UInt8} {a1:List UInt8} {r:G.Note}:spec_Made.raw a0 a1=some r→r=tMade a0 a1:=Le.out (by unfold spec_Made.raw tMade;exact .g (.g .rfl))
def tl19Made (a0:G.Chan) (a1:G.Frame):G.Note:=(let r1:=tTagInput a0.Role a1
  (let r2:=tMade a0.Cur.Key r1
 r2))
theorem spec_l19Made_d {a0:G.Chan} {a1:G.Frame} {r:G.Note}:spec_l19Made.raw a0 a1=some r→r=tl19Made a0 a1:=Le.out (by unfold spec_l19Made.raw tl19Made;exact .b (fun _=>spec_TagInput_d) (.b (fun _=>spec_Made_d) .rfl))
def tClientSend (a0:G.Client) (a1:Int) (a2:List UInt8):G.Client × (List G.Frame) × (List G.Note) × Int:=(let y2:Bool:= 
  (let r4:=clientOk a0
  ((!r4)||((!(inR a1 0 1000000))||(decide ((a2.length:Int)>40)))))
  (bif y2 then (a0,[],[],1) else (bif a0.St !=3 then (a0,[],[],6) else 
  (let r5:=tChanSeal a0.C 4 a2
  (bif r5.2.2 !=0 then (a0,[],[],r5.2.2) else 
  (let r6:=tl19Made r5.1 r5.2.1
  (let x7:List G.Note:=[r6,(⟨5,0,0,[],r5.2.1.Sn,r5.2.1.Epoch,r5.2.1.Seq,a2,[],(⟨0,0⟩:G.Addr),0⟩:G.Note)]
  ((⟨a0.Id,a0.Psk,a0.At,a0.St,a0.Cn,a0.Fin,r5.1,a0.T,a0.R,a0.Last⟩:G.Client),[r5.2.1],x7,0))))))))
theorem spec_ClientSend_d {a0:G.Client} {a1:Int} {a2:List UInt8} {r:G.Client × (List G.Frame) × (List G.Note) × Int}:spec_ClientSend.raw a0 a1 a2=some r→r=tClientSend a0 a1 a2:=Le.out (by unfold spec_ClientSend.raw tClientSend;exact .b (fun _=>pt_d) (.j (fun _=> .b (fun _=>pt_d) (.or (.or .rfl))) (.cs .rfl (.cs .rfl (.b (fun _=>spec_ChanSeal_d) (.cs .rfl (.g (.g (.b (fun _=>spec_l19Made_d) .rfl)))))))))
def tSessSend (a0:G.Sess) (a1:List UInt8):G.Sess × (List G.Out) × (List G.Note) × Int:=(let y2:Bool:= 
  (let r4:=sessOk a0
  ((!r4)||(decide ((a1.length:Int)>40))))
  (bif y2 then (a0,[],[],1) else (bif a0.Dead then (a0,[],[],6) else 
  (let r5:=tChanSeal a0.C 4 a1
  (bif r5.2.2 !=0 then (a0,[],[],r5.2.2) else 
  (let r6:=tl19Made r5.1 r5.2.1
  (let x7:List G.Note:=[r6,(⟨5,0,1,[],a0.Sn,r5.2.1.Epoch,r5.2.1.Seq,a1,[],(⟨0,0⟩:G.Addr),0⟩:G.Note)]
  ((⟨a0.Id,a0.Cn,a0.Sn,r5.1,a0.P,a0.Tick,a0.Last,a0.Dead⟩:G.Sess),[(⟨a0.P.At,r5.2.1⟩:G.Out)],x7,0))))))))
theorem spec_SessSend_d {a0:G.Sess} {a1:List UInt8} {r:G.Sess × (List G.Out) × (List G.Note) × Int}:spec_SessSend.raw a0 a1=some r→r=tSessSend a0 a1:=Le.out (by unfold spec_SessSend.raw tSessSend;exact .b (fun _=>pt_d) (.j (fun _=> .b (fun _=>pt_d) (.or .rfl)) (.cs .rfl (.cs .rfl (.b (fun _=>spec_ChanSeal_d) (.cs .rfl (.g (.g (.b (fun _=>spec_l19Made_d) .rfl)))))))))
def tServerSend (a0:G.Server) (a1:Int) (a2:Int) (a3:List UInt8):G.Server × (List G.Out) × (List G.Note) × Int:=(let y2:Bool:= 
  (let r4:=serverOk a0
  ((!r4)||(!(inR a1 0 1000000))))
  (bif y2 then (a0,[],[],1) else 
  (let r5:Bool:=inR a2 0 (isub .i64 (a0.T.L.length:Int) 1)
  (bif !r5 then (a0,[],[],8) else 
  (let e6:=(idxI a0.T.L a2).getD default
  (let r7:=tSessSend e6 a3
  (let y8:G.Server:=(bif r7.2.2.2==0 then 
  (let e10:=(a0.T.L[a2.toNat]?).getD default
  (⟨a0.Psks,a0.J,a0.D,(⟨a0.T.Cap,List.set a0.T.L a2.toNat r7.1⟩:G.Tab),a0.Cr⟩:G.Server)) else a0)
  (y8,r7.2.1,r7.2.2.1,r7.2.2.2))))))))
theorem spec_ServerSend_d {a0:G.Server} {a1:Int} {a2:Int} {a3:List UInt8} {r:G.Server × (List G.Out) × (List G.Note) × Int}:spec_ServerSend.raw a0 a1 a2 a3=some r→r=tServerSend a0 a1 a2 a3:=Le.out (by unfold spec_ServerSend.raw tServerSend;exact .b (fun _=>pt_d) (.j (fun _=> .b (fun _=>pt_d) (.or .rfl)) (.cs .rfl (.cs .rfl (.b (fun _=>getD_d) (.b (fun _=>spec_SessSend_d) (.j (fun _=> .c (.g (.b (fun _=>getD_d) .rfl)) .rfl) .rfl)))))))
def tl25Outs (a0:List G.Out):List G.Wire:=(let y1:(List G.Wire):= 
  (let x3:=iter (fun (x3:(List G.Wire) × Int)=> 
  (let r5:G.Addr:=hub
  (let e6:=(idxI a0 x3.2).getD default
  (let e7:=(idxI a0 x3.2).getD default
  (let r8:=tWireFrom r5 e6.To e7.F
  ((x3.1++[r8]),(iadd .i64 x3.2 1))))))) ((a0.length:Int):Int).toNat ([],0)
 x3.1)
 y1)
theorem spec_l25Outs_d {a0:List G.Out} {r:List G.Wire}:spec_l25Outs.raw a0=some r→r=tl25Outs a0:=Le.out (by unfold spec_l25Outs.raw tl25Outs;exact .j (fun _=> .it (fun _ _=> .b (fun _=>getD_d) (.b (fun _=>getD_d) (.b (fun _=>spec_WireFrom_d) (.g .rfl)))) .rfl rfl (fun _=>rfl)) .rfl)
def tTimerFires (a0:G.Timer) (a1:Int):Bool:=(let y1:Bool:=(((timerOk a0))&&((a0.On)&&(((inR a1 0 1000000))&&(decide (a1≥a0.Due)))))
 y1)
theorem spec_TimerFires_d {a0:G.Timer} {a1:Int} {r:Bool}:spec_TimerFires.raw a0 a1=some r→r=tTimerFires a0 a1:=Le.out (by unfold spec_TimerFires.raw tTimerFires;exact .j (fun _=> .and (.and (.and .rfl))) .rfl)
def tTimerNext (a0:G.Timer) (a1:Int):G.Timer × Int:=(let r1:=tTimerFires a0 a1
  (bif !r1 then (a0,0) else (bif a0.Tries==5 then ((⟨false,0,0,0⟩:G.Timer),2) else 
  (let y2:Int:=(bif decide ((imul .i64 2 a0.Wait)>8) then 8 else (imul .i64 2 a0.Wait))
  ((⟨true,iadd .i64 a1 y2,y2,iadd .i64 a0.Tries 1⟩:G.Timer),1)))))
theorem spec_TimerNext_d {a0:G.Timer} {a1:Int} {r:G.Timer × Int}:spec_TimerNext.raw a0 a1=some r→r=tTimerNext a0 a1:=Le.out (by unfold spec_TimerNext.raw tTimerNext;exact .b (fun _=>spec_TimerFires_d) (.cs .rfl (.cs .rfl (.j (fun _=> .c .rfl .rfl) .rfl))))
def tl19Idle (a0:G.Client):G.Client:=(let r1:=clientNew a0.Id a0.Psk a0.At
 r1)
theorem spec_l19Idle_d {a0:G.Client} {r:G.Client}:spec_l19Idle.raw a0=some r→r=tl19Idle a0:=Le.out (by unfold spec_l19Idle.raw tl19Idle;exact .b (fun _=>pt_d) .rfl)
def tChanTick (a0:G.Chan) (a1:Int):G.Chan:=(let y2:Bool:= 
  (let r4:=chanOk a0
  ((r4)&&(((inR a1 0 1000000))&&((a0.HasOld)&&((a0.Until !=(-1))&&(decide (a1>a0.Until)))))))
  (let y5:G.Chan:=(bif y2 then (⟨a0.Role,a0.Sn,a0.Cur,(⟨0,[],0,(⟨0,[]⟩:G.Win)⟩:G.Ep),false,0,a0.Next⟩:G.Chan) else a0)
 y5))
theorem spec_ChanTick_d {a0:G.Chan} {a1:Int} {r:G.Chan}:spec_ChanTick.raw a0 a1=some r→r=tChanTick a0 a1:=Le.out (by unfold spec_ChanTick.raw tChanTick;exact .b (fun _=>pt_d) (.j (fun _=> .b (fun _=>pt_d) (.and (.and (.and (.and .rfl))))) (.j (fun _=> .c .rfl .rfl) .rfl)))
def tRekeyBody (a0:Int):List UInt8:=(bif !(inR a0 0 4294967295) then [] else 
  (let r1:=putN [] a0 4
 r1))
theorem spec_RekeyBody_d {a0:Int} {r:List UInt8}:spec_RekeyBody.raw a0=some r→r=tRekeyBody a0:=Le.out (by unfold spec_RekeyBody.raw tRekeyBody;exact .cs .rfl (.b (fun _=>pt_d) .rfl))
def tAskRekey (a0:G.Chan):G.Chan × G.Frame × Int:=(let y1:Bool:= 
  (let r3:=chanOk a0
  ((!r3)||((a0.Next.length:Int)==0)))
  (bif y1 then (a0,(⟨0,0,[],[],0,[],[],0,0,[],[]⟩:G.Frame),6) else 
  (let r5:=tRekeyBody (iadd .i64 a0.Cur.N 1)
  (let r6:=tChanSeal a0 7 r5
  (r6.1,r6.2.1,r6.2.2)))))
theorem spec_AskRekey_d {a0:G.Chan} {r:G.Chan × G.Frame × Int}:spec_AskRekey.raw a0=some r→r=tAskRekey a0:=Le.out (by unfold spec_AskRekey.raw tAskRekey;exact .j (fun _=> .b (fun _=>pt_d) (.or .rfl)) (.cs (.b (fun _=>pt_d) .rfl) (.b (fun _=>spec_RekeyBody_d) (.b (fun _=>spec_ChanSeal_d) .rfl))))
def tClientTick (a0:G.Client) (a1:Int):G.Client × (List G.Frame) × (List G.Note):=(let y2:Bool:= 
  (let r4:=clientOk a0
  ((!r4)||((!(inR a1 0 1000000))||(a0.St==0))))
  (bif y2 then (a0,[],[]) else (bif a0.St !=3 then 
  (let r5:=tTimerNext a0.T a1
  (bif r5.2==2 then 
  (let r6:=tl19Idle a0
  (let x7:List G.Note:=[(⟨17,a0.Id,0,a0.Cn,[],0,0,[],[],(⟨0,0⟩:G.Addr),0⟩:G.Note)]
  (r6,[],x7))) else 
  (let y8:Bool:=((r5.2==1)&&(a0.St==1))
  (let y10:(List G.Frame):=(bif y8 then 
  (let r12:=tl19Init a0
  ([r12])) else [])
  (let y13:Bool:=((r5.2==1)&&(a0.St==2))
  (let y15:(List G.Frame):=(bif y13 then (y10++[a0.Fin]) else y10)
  ((⟨a0.Id,a0.Psk,a0.At,a0.St,a0.Cn,a0.Fin,a0.C,r5.1,a0.R,a0.Last⟩:G.Client),y15,[]))))))) else (bif decide ((isub .i64 a1 a0.Last)>60) then 
  (let r18:=tl19Idle a0
  (let x19:List G.Note:=[(⟨11,a0.Id,0,[],a0.C.Sn,0,0,[],[],(⟨0,0⟩:G.Addr),0⟩:G.Note)]
  (r18,[],x19))) else 
  (let r20:=tChanTick a0.C a1
  (let r21:=tTimerNext a0.R a1
  (bif r21.2==0 then ((⟨a0.Id,a0.Psk,a0.At,a0.St,a0.Cn,a0.Fin,r20,a0.T,a0.R,a0.Last⟩:G.Client),[],[]) else 
  (let y22:G.Client:=(bif r21.2==2 then 
  (let r24:=tTimerSet a1
  (⟨a0.Id,a0.Psk,a0.At,a0.St,a0.Cn,a0.Fin,r20,a0.T,r24,a0.Last⟩:G.Client)) else (⟨a0.Id,a0.Psk,a0.At,a0.St,a0.Cn,a0.Fin,r20,a0.T,r21.1,a0.Last⟩:G.Client))
  (let r25:=tAskRekey y22.C
  (let y26:(List G.Frame) × (List G.Note) × G.Client:=(bif r25.2.2==0 then 
  (let r28:=tl19Made r25.1 r25.2.1
  (([r25.2.1]),([r28]),(⟨y22.Id,y22.Psk,y22.At,y22.St,y22.Cn,y22.Fin,r25.1,y22.T,y22.R,y22.Last⟩:G.Client))) else ([],[],y22))
  (y26.2.2,y26.1,y26.2.1)))))))))))
theorem spec_ClientTick_d {a0:G.Client} {a1:Int} {r:G.Client × (List G.Frame) × (List G.Note)}:spec_ClientTick.raw a0 a1=some r→r=tClientTick a0 a1:=Le.out (by unfold spec_ClientTick.raw tClientTick;exact .b (fun _=>pt_d) (.j (fun _=> .b (fun _=>pt_d) (.or (.or .rfl))) (.cs .rfl (.cs (.b (fun _=>spec_TimerNext_d) (.cs (.b (fun _=>spec_l19Idle_d) (.g (.g .rfl))) (.j (fun _=> .and .rfl) (.j (fun _=> .c (.b (fun _=>spec_l19Init_d) (.g .rfl)) .rfl) (.j (fun _=> .and .rfl) (.j (fun _=> .c (.b (fun _=>pt_d) (.g .rfl)) .rfl) .rfl)))))) (.cs (.b (fun _=>spec_l19Idle_d) (.g (.g .rfl))) (.b (fun _=>spec_ChanTick_d) (.b (fun _=>spec_TimerNext_d) (.cs .rfl (.j (fun _=> .c (.b (fun _=>spec_TimerSet_d) .rfl) .rfl) (.b (fun _=>spec_AskRekey_d) (.j (fun _=> .c (.g (.b (fun _=>spec_l19Made_d) (.g .rfl))) .rfl) .rfl)))))))))))
def tBury (a0:G.Sess):G.Sess:=(let r1:=sessOk a0
  (bif !r1 then a0 else (⟨a0.Id,a0.Cn,a0.Sn,(⟨0,[],(⟨0,[],0,(⟨0,[]⟩:G.Win)⟩:G.Ep),(⟨0,[],0,(⟨0,[]⟩:G.Win)⟩:G.Ep),false,0,[]⟩:G.Chan),(⟨(⟨0,0⟩:G.Addr),[]⟩:G.Paths),a0.Tick,0,true⟩:G.Sess)))
theorem spec_Bury_d {a0:G.Sess} {r:G.Sess}:spec_Bury.raw a0=some r→r=tBury a0:=Le.out (by unfold spec_Bury.raw tBury;exact .b (fun _=>pt_d) (.cs (.b (fun _=>pt_d) .rfl) (.g (.g .rfl))))
def tPathTick (a0:G.Paths) (a1:Int):G.Paths:=(let y1:Bool:=((!(pathsOk a0))||(!(inR a1 0 1000000)))
  (bif y1 then a0 else 
  (let y4:G.Paths:= 
  (let x6:=iter (fun (x6:Int × G.Paths)=> 
  (let e8:=(idxI a0.Cands x6.1).getD default
  (let y9:G.Paths:=(bif decide (e8.Until≥a1) then 
  (let e11:=(idxI a0.Cands x6.1).getD default
  (⟨x6.2.At,x6.2.Cands++[e11]⟩:G.Paths)) else x6.2)
  ((iadd .i64 x6.1 1),y9)))) ((a0.Cands.length:Int):Int).toNat (0,(⟨a0.At,[]⟩:G.Paths))
 x6.2)
 y4)))
theorem spec_PathTick_d {a0:G.Paths} {a1:Int} {r:G.Paths}:spec_PathTick.raw a0 a1=some r→r=tPathTick a0 a1:=Le.out (by unfold spec_PathTick.raw tPathTick;exact .j (fun _=> .or .rfl) (.cs (.b (fun _=>pt_d) .rfl) (.j (fun _=> .it (fun _ _=> .b (fun _=>getD_d) (.j (fun _=> .c (.b (fun _=>getD_d) (.b (fun _=>pt_d) (.g .rfl))) .rfl) .rfl)) .rfl rfl (fun _=>rfl)) .rfl)))
def tSessTick (a0:G.Sess) (a1:Int):G.Sess:=(let y2:Bool:= 
  (let r4:=sessOk a0
  ((!r4)||((a0.Dead)||(!(inR a1 0 1000000)))))
  (bif y2 then a0 else (bif decide ((isub .i64 a1 a0.Last)>60) then 
  (let r5:=tBury a0
 r5) else 
  (let r6:=tChanTick a0.C a1
  (let r7:=tPathTick a0.P a1
  (⟨a0.Id,a0.Cn,a0.Sn,r6,r7,a0.Tick,a0.Last,a0.Dead⟩:G.Sess))))))
theorem spec_SessTick_d {a0:G.Sess} {a1:Int} {r:G.Sess}:spec_SessTick.raw a0 a1=some r→r=tSessTick a0 a1:=Le.out (by unfold spec_SessTick.raw tSessTick;exact .b (fun _=>pt_d) (.j (fun _=> .b (fun _=>pt_d) (.or (.or .rfl))) (.cs .rfl (.cs (.b (fun _=>spec_Bury_d) .rfl) (.b (fun _=>spec_ChanTick_d) (.b (fun _=>spec_PathTick_d) .rfl))))))
def tTabTick (a0:G.Tab) (a1:Int):G.Tab:=(let y1:Bool:= 
  (let r3:=tabOk a0
  ((!r3)||(!(inR a1 0 1000000))))
  (bif y1 then a0 else 
  (let y5:G.Tab:= 
  (let x7:=iter (fun (x7:Int × G.Tab)=> 
  (let e9:=(idxI a0.L x7.1).getD default
  (let r10:=tSessTick e9 a1
  (let y11:Bool:=((!r10.Dead)||(decide ((isub .i64 a1 r10.Tick)≤10)))
  (let y13:G.Tab:=(bif y11 then (⟨x7.2.Cap,x7.2.L++[r10]⟩:G.Tab) else x7.2)
  ((iadd .i64 x7.1 1),y13)))))) ((a0.L.length:Int):Int).toNat (0,(⟨a0.Cap,[]⟩:G.Tab))
 x7.2)
 y5)))
theorem spec_TabTick_d {a0:G.Tab} {a1:Int} {r:G.Tab}:spec_TabTick.raw a0 a1=some r→r=tTabTick a0 a1:=Le.out (by unfold spec_TabTick.raw tTabTick;exact .j (fun _=> .b (fun _=>pt_d) (.or .rfl)) (.cs (.b (fun _=>pt_d) .rfl) (.j (fun _=> .it (fun _ _=> .b (fun _=>getD_d) (.b (fun _=>spec_SessTick_d) (.j (fun _=> .or .rfl) (.j (fun _=> .c (.g .rfl) .rfl) .rfl)))) .rfl rfl (fun _=>rfl)) .rfl)))
def tl22End (a0:G.Sess):G.Note:=(⟨11,a0.Id,1,[],a0.Sn,0,0,[],[],(⟨0,0⟩:G.Addr),0⟩:G.Note)
theorem spec_l22End_d {a0:G.Sess} {r:G.Note}:spec_l22End.raw a0=some r→r=tl22End a0:=Le.out (by unfold spec_l22End.raw tl22End;exact .g .rfl)
def tServerTick (a0:G.Server) (a1:Int):G.Server × (List G.Note):=(let y2:Bool:= 
  (let r4:=serverOk a0
  ((!r4)||(!(inR a1 0 1000000))))
  (bif y2 then (a0,[]) else 
  (let r5:=tTabTick a0.T a1
  (let y6:(List G.Note):= 
  (let x8:=iter (fun (x8:(List G.Note) × Int)=> 
  (let e10:=(idxI a0.T.L x8.2).getD default
  (let r11:=findSn r5 e10.Sn
  (let y12:Bool:= 
  (let e14:=(idxI a0.T.L x8.2).getD default
  ((!e14.Dead)&&((decide (r11<0))|| 
  (let e15:=(r5.L[r11.toNat]?).getD default
 e15.Dead))))
  (let y16:(List G.Note):=(bif y12 then 
  (let e18:=(idxI a0.T.L x8.2).getD default
  (let r19:=tl22End e18
  (x8.1++[r19]))) else x8.1)
  (y16,(iadd .i64 x8.2 1))))))) ((a0.T.L.length:Int):Int).toNat ([],0)
 x8.1)
  ((⟨a0.Psks,a0.J,a0.D,r5,a0.Cr⟩:G.Server),y6)))))
theorem spec_ServerTick_d {a0:G.Server} {a1:Int} {r:G.Server × (List G.Note)}:spec_ServerTick.raw a0 a1=some r→r=tServerTick a0 a1:=Le.out (by unfold spec_ServerTick.raw tServerTick;exact .b (fun _=>pt_d) (.j (fun _=> .b (fun _=>pt_d) (.or .rfl)) (.cs .rfl (.b (fun _=>spec_TabTick_d) (.j (fun _=> .it (fun _ _=> .b (fun _=>getD_d) (.b (fun _=>pt_d) (.j (fun _=> .b (fun _=>getD_d) (.and (.or (.g (.b (fun _=>getD_d) .rfl))))) (.j (fun _=> .c (.b (fun _=>getD_d) (.b (fun _=>spec_l22End_d) (.g .rfl))) .rfl) .rfl)))) .rfl rfl (fun _=>rfl)) .rfl)))))
def tl25Tick (a0:G.World):(List G.Wire) × G.World:=(let y1:(List G.Wire) × G.World:= 
  (let x3:=iter (fun (x3:(List G.Wire) × Int × G.World)=> 
  (let e5:=(x3.2.2.Clients[x3.2.1.toNat]?).getD default
  (let r6:=tClientTick e5 x3.2.2.Now
  (let e7:=(x3.2.2.Clients[x3.2.1.toNat]?).getD default
  (let r8:=tl25Sent r6.1 r6.2.1
  ((x3.1++r8),(iadd .i64 x3.2.1 1),(⟨x3.2.2.Now,List.set x3.2.2.Clients x3.2.1.toNat r6.1,x3.2.2.S,x3.2.2.D,x3.2.2.Seen,x3.2.2.Known,x3.2.2.Notes++r6.2.2⟩:G.World))))))) (2:Int).toNat ([],0,(⟨iadd .i64 a0.Now 1,a0.Clients,a0.S,a0.D,a0.Seen,a0.Known,a0.Notes⟩:G.World))
  (x3.1,x3.2.2))
  (let r9:=tServerTick y1.2.S y1.2.Now
  (y1.1,(⟨y1.2.Now,y1.2.Clients,r9.1,y1.2.D,y1.2.Seen,y1.2.Known,y1.2.Notes++r9.2⟩:G.World))))
theorem spec_l25Tick_d {a0:G.World} {r:(List G.Wire) × G.World}:spec_l25Tick.raw a0=some r→r=tl25Tick a0:=Le.out (by unfold spec_l25Tick.raw tl25Tick;exact .j (fun _=> .it (fun _ _=> .g (.b (fun _=>getD_d) (.b (fun _=>spec_ClientTick_d) (.g (.b (fun _=>getD_d) (.g (.b (fun _=>spec_l25Sent_d) (.g .rfl)))))))) .rfl rfl (fun _=>rfl)) (.b (fun _=>spec_ServerTick_d) (.g .rfl)))
def tRoam (a0:G.Client) (a1:G.Addr):G.Client:=(let y2:Bool:= 
  (let r4:=clientOk a0
  ((r4)&&(addrOk a1)))
  (let y5:G.Client:=(bif y2 then (⟨a0.Id,a0.Psk,a1,a0.St,a0.Cn,a0.Fin,a0.C,a0.T,a0.R,a0.Last⟩:G.Client) else a0)
 y5))
theorem spec_Roam_d {a0:G.Client} {a1:G.Addr} {r:G.Client}:spec_Roam.raw a0 a1=some r→r=tRoam a0 a1:=Le.out (by unfold spec_Roam.raw tRoam;exact .b (fun _=>pt_d) (.j (fun _=> .b (fun _=>pt_d) (.and .rfl)) (.j (fun _=> .c .rfl .rfl) .rfl)))
def tWant (a0:G.Chan):G.Chan × Bool:=(let y2:Bool:= 
  (let r4:=chanOk a0
  ((!r4)||((a0.Role !=0)||((decide ((a0.Next.length:Int)>0))||(a0.Cur.N==4294967295)))))
  (bif y2 then (a0,false) else 
  (let r5:=derive a0.Cur.Key [114,101,107,101,121]
  ((⟨a0.Role,a0.Sn,a0.Cur,a0.Old,a0.HasOld,a0.Until,r5⟩:G.Chan),true))))
theorem spec_Want_d {a0:G.Chan} {r:G.Chan × Bool}:spec_Want.raw a0=some r→r=tWant a0:=Le.out (by unfold spec_Want.raw tWant;exact .b (fun _=>pt_d) (.j (fun _=> .b (fun _=>pt_d) (.or (.or (.or .rfl)))) (.cs .rfl (.b (fun _=>pt_d) .rfl))))
def tClientRekey (a0:G.Client) (a1:Int):G.Client × (List G.Frame) × (List G.Note) × Int:=(let y2:Bool:= 
  (let r4:=clientOk a0
  ((!r4)||(!(inR a1 0 1000000))))
  (bif y2 then (a0,[],[],1) else 
  (let y5:Bool:=((a0.St !=3)||(decide ((a0.C.Next.length:Int)>0)))
  (bif y5 then (a0,[],[],6) else 
  (let r7:=tWant a0.C
  (let r8:=tAskRekey r7.1
  (let y9:Bool:=((!r7.2)||(r8.2.2 !=0))
  (bif y9 then (a0,[],[],5) else 
  (let r11:=tTimerSet a1
  (let r12:=tl19Made r8.1 r8.2.1
  ((⟨a0.Id,a0.Psk,a0.At,a0.St,a0.Cn,a0.Fin,r8.1,a0.T,r11,a0.Last⟩:G.Client),[r8.2.1],[r12],0)))))))))))
theorem spec_ClientRekey_d {a0:G.Client} {a1:Int} {r:G.Client × (List G.Frame) × (List G.Note) × Int}:spec_ClientRekey.raw a0 a1=some r→r=tClientRekey a0 a1:=Le.out (by unfold spec_ClientRekey.raw tClientRekey;exact .b (fun _=>pt_d) (.j (fun _=> .b (fun _=>pt_d) (.or .rfl)) (.cs .rfl (.j (fun _=> .or .rfl) (.cs .rfl (.b (fun _=>spec_Want_d) (.b (fun _=>spec_AskRekey_d) (.j (fun _=> .or .rfl) (.cs .rfl (.b (fun _=>spec_TimerSet_d) (.b (fun _=>spec_l19Made_d) .rfl)))))))))))
def tGain (a0:List G.Credit) (a1:G.Addr) (a2:Int):List G.Credit:=(let y1:Bool:=((!(creditsOk a0))||((!(addrOk a1))||(!(inR a2 0 1000000))))
  (bif y1 then (a0) else (bif decide ((cAt a0 a1)<0) then (bif (a0.length:Int)==8 then (a0) else ((a0)++[(⟨a1,a2,0⟩:G.Credit)])) else 
  (let e3:=((a0)[(cAt a0 a1).toNat]?).getD default
  (let e4:=((a0)[(cAt a0 a1).toNat]?).getD default
  (let l5:List G.Credit:=List.set (a0) ((cAt a0 a1).toNat) (⟨e4.A,iadd .i64 e3.Got a2,e4.Sent⟩:G.Credit)
  (let e6:=(l5[(cAt a0 a1).toNat]?).getD default
  (let y7:(List G.Credit):=(bif decide (e6.Got>1000000) then 
  (let e9:=(l5[(cAt a0 a1).toNat]?).getD default
  (let l10:List G.Credit:=List.set l5 ((cAt a0 a1).toNat) (⟨e9.A,1000000,e9.Sent⟩:G.Credit)
 l10)) else l5)
 y7))))))))
theorem spec_Gain_d {a0:List G.Credit} {a1:G.Addr} {a2:Int} {r:List G.Credit}:spec_Gain.raw a0 a1 a2=some r→r=tGain a0 a1 a2:=Le.out (by unfold spec_Gain.raw tGain;exact .g (.j (fun _=> .or (.or .rfl)) (.cs .rfl (.cs (.cs .rfl (.g .rfl)) (.g (.b (fun _=>getD_d) (.g (.b (fun _=>getD_d) (.g (.b (fun _=>getD_d) (.j (fun _=> .c (.g (.b (fun _=>getD_d) .rfl)) .rfl) .rfl)))))))))))
def tGetFrame (a0:List UInt8):G.Frame × Bool:=(bif (a0.length:Int)==0 then ((⟨0,0,[],[],0,[],[],0,0,[],[]⟩:G.Frame),false) else 
  (let e1:=(idxI a0 0).getD default
  (let x2:Int:=IntKind.wrap .i64 ((e1.toNat:Nat):Int)
  (bif x2==1 then (bif (a0.length:Int) !=34 then ((⟨0,0,[],[],0,[],[],0,0,[],[]⟩:G.Frame),false) else 
  (let e5:=(idxI a0 1).getD default
  (let x6:Int:=IntKind.wrap .i64 ((e5.toNat:Nat):Int)
  (let l7:List UInt8:=List.take 12 (List.drop 2 a0)
  (let r28:=tPutFrame (⟨x2,x6,l7,[],0,[],[],0,0,[],[]⟩:G.Frame)
  (bif !(r28==a0) then ((⟨0,0,[],[],0,[],[],0,0,[],[]⟩:G.Frame),false) else ((⟨x2,x6,l7,[],0,[],[],0,0,[],[]⟩:G.Frame),true))))))) else (bif x2==2 then (bif (a0.length:Int) !=45 then ((⟨0,0,[],[],0,[],[],0,0,[],[]⟩:G.Frame),false) else 
  (let l10:List UInt8:=List.take 12 (List.drop 1 a0)
  (let l11:List UInt8:=List.take 12 (List.drop 13 a0)
  (let r12:=getN a0 25 4
  (let l13:List UInt8:=List.take (((a0.length:Int) - 29).toNat) (List.drop 29 a0)
  (let r28:=tPutFrame (⟨x2,0,l10,l11,r12.1,l13,[],0,0,[],[]⟩:G.Frame)
  (bif !(r28==a0) then ((⟨0,0,[],[],0,[],[],0,0,[],[]⟩:G.Frame),false) else ((⟨x2,0,l10,l11,r12.1,l13,[],0,0,[],[]⟩:G.Frame),true)))))))) else (bif x2==3 then (bif (a0.length:Int) !=62 then ((⟨0,0,[],[],0,[],[],0,0,[],[]⟩:G.Frame),false) else 
  (let e16:=(idxI a0 1).getD default
  (let x17:Int:=IntKind.wrap .i64 ((e16.toNat:Nat):Int)
  (let l18:List UInt8:=List.take 12 (List.drop 2 a0)
  (let l19:List UInt8:=List.take 12 (List.drop 14 a0)
  (let r20:=getN a0 26 4
  (let l21:List UInt8:=List.take 16 (List.drop 30 a0)
  (let l22:List UInt8:=List.take (((a0.length:Int) - 46).toNat) (List.drop 46 a0)
  (let r28:=tPutFrame (⟨x2,x17,l18,l19,r20.1,l21,l22,0,0,[],[]⟩:G.Frame)
  (bif !(r28==a0) then ((⟨0,0,[],[],0,[],[],0,0,[],[]⟩:G.Frame),false) else ((⟨x2,x17,l18,l19,r20.1,l21,l22,0,0,[],[]⟩:G.Frame),true))))))))))) else (bif decide ((a0.length:Int)<39) then ((⟨0,0,[],[],0,[],[],0,0,[],[]⟩:G.Frame),false) else 
  (let l23:List UInt8:=List.take 12 (List.drop 1 a0)
  (let r24:=getN a0 13 4
  (let r25:=getN a0 17 6
  (let l26:List UInt8:=List.take 16 (List.drop 23 a0)
  (let l27:List UInt8:=List.take (((a0.length:Int) - 39).toNat) (List.drop 39 a0)
  (let r28:=tPutFrame (⟨x2,0,[],l23,0,[],[],r24.1,r25.1,l27,l26⟩:G.Frame)
  (bif !(r28==a0) then ((⟨0,0,[],[],0,[],[],0,0,[],[]⟩:G.Frame),false) else ((⟨x2,0,[],l23,0,[],[],r24.1,r25.1,l27,l26⟩:G.Frame),true)))))))))))))))
theorem spec_GetFrame_d {a0:List UInt8} {r:G.Frame × Bool}:spec_GetFrame.raw a0=some r→r=tGetFrame a0:=Le.out (by unfold spec_GetFrame.raw tGetFrame;exact .cs .rfl (.b (fun _=>getD_d) (.j0 (.cs (.cs .rfl (.b (fun _=>getD_d) (.g (.g (.b (fun _=>spec_PutFrame_d) (.g (.g (.cs .rfl .rfl)))))))) (.j0 (.cs (.cs .rfl (.g (.g (.g (.g (.b (fun _=>pt_d) (.g (.g (.b (fun _=>spec_PutFrame_d) (.g (.g (.cs .rfl .rfl)))))))))))) (.j0 (.cs (.cs .rfl (.b (fun _=>getD_d) (.g (.g (.g (.g (.b (fun _=>pt_d) (.g (.g (.g (.g (.b (fun _=>spec_PutFrame_d) (.g (.g (.cs .rfl .rfl))))))))))))))) (.cs .rfl (.g (.g (.b (fun _=>pt_d) (.b (fun _=>pt_d) (.g (.g (.g (.g (.b (fun _=>spec_PutFrame_d) (.g (.g (.cs .rfl .rfl)))))))))))))))))))))
def tRoomFor (a0:List G.Credit) (a1:G.Addr):Int:=(let y1:Bool:=((!(creditsOk a0))||(decide ((cAt a0 a1)<0)))
  (bif y1 then 0 else 
  (let e3:=(idxI a0 (cAt a0 a1)).getD default
  (let e4:=(idxI a0 (cAt a0 a1)).getD default
  (isub .i64 (imul .i64 3 e3.Got) e4.Sent)))))
theorem spec_RoomFor_d {a0:List G.Credit} {a1:G.Addr} {r:Int}:spec_RoomFor.raw a0 a1=some r→r=tRoomFor a0 a1:=Le.out (by unfold spec_RoomFor.raw tRoomFor;exact .j (fun _=> .or .rfl) (.cs .rfl (.b (fun _=>getD_d) (.b (fun _=>getD_d) .rfl))))
def tMayAsk (a0:G.Server) (a1:G.Addr) (a2:Int):Bool:=(let y1:Bool:= 
  (let r3:=(spec_AtOf.raw a0.T a1).getD default
  ((r3)|| 
  (let r4:=tRoomFor a0.Cr a1
  (decide (r4≥a2)))))
 y1)
theorem spec_MayAsk_d {a0:G.Server} {a1:G.Addr} {a2:Int} {r:Bool}:spec_MayAsk.raw a0 a1 a2=some r→r=tMayAsk a0 a1 a2:=Le.out (by unfold spec_MayAsk.raw tMayAsk;exact .j (fun _=> .b (fun _=>getD_d) (.or (.b (fun _=>spec_RoomFor_d) .rfl))) .rfl)
def tPutAddr (a0:List UInt8) (a1:G.Addr):List UInt8:=(bif !(addrOk a1) then (a0) else 
  (let r1:=putN a0 a1.Host 4
  (let r2:=putN r1 a1.Port 2
 r2)))
theorem spec_PutAddr_d {a0:List UInt8} {a1:G.Addr} {r:List UInt8}:spec_PutAddr.raw a0 a1=some r→r=tPutAddr a0 a1:=Le.out (by unfold spec_PutAddr.raw tPutAddr;exact .cs (.g .rfl) (.b (fun _=>pt_d) (.b (fun _=>pt_d) .rfl)))
def tMintBody (a0:G.Addr) (a1:Int) (a2:List UInt8) (a3:List UInt8) (a4:Int):List UInt8:=(let y1:Bool:=((!(addrOk a0))||((!(inR a1 1 9))||(((a2.length:Int) !=12)||(((a3.length:Int) !=12)||(!(inR a4 0 1000000))))))
  (bif y1 then [] else 
  (let r3:=tPutAddr [UInt8.ofNat (99:Int).toNat] a0
  (let x4:List UInt8:=(r3++[UInt8.ofNat (IntKind.wrap .u8 a1:Int).toNat])++a2
  (let r5:=putN (x4++a3) a4 4
 r5)))))
theorem spec_MintBody_d {a0:G.Addr} {a1:Int} {a2:List UInt8} {a3:List UInt8} {a4:Int} {r:List UInt8}:spec_MintBody.raw a0 a1 a2 a3 a4=some r→r=tMintBody a0 a1 a2 a3 a4:=Le.out (by unfold spec_MintBody.raw tMintBody;exact .j (fun _=> .or (.or (.or (.or .rfl)))) (.cs .rfl (.b (fun _=>spec_PutAddr_d) (.g (.g (.g (.b (fun _=>pt_d) .rfl)))))))
def tMint (a0:G.Jar) (a1:G.Addr) (a2:Int) (a3:List UInt8) (a4:List UInt8) (a5:Int):List UInt8:=(let r1:=tMintBody a1 a2 a3 a4 a5
  (let y2:Bool:=((!(jarOk a0))||((r1.length:Int)==0))
  (bif y2 then [] else 
  (let r4:=tTag a0.Secret r1
 r4))))
theorem spec_Mint_d {a0:G.Jar} {a1:G.Addr} {a2:Int} {a3:List UInt8} {a4:List UInt8} {a5:Int} {r:List UInt8}:spec_Mint.raw a0 a1 a2 a3 a4 a5=some r→r=tMint a0 a1 a2 a3 a4 a5:=Le.out (by unfold spec_Mint.raw tMint;exact .b (fun _=>spec_MintBody_d) (.j (fun _=> .or .rfl) (.cs .rfl (.b (fun _=>spec_Tag_d) .rfl))))
def tFresh (a0:Int) (a1:Int):Bool:=(let y1:Bool:=(((inR a0 0 1000000))&&(((inR a1 0 1000000))&&(inR (isub .i64 a0 a1) 0 10)))
 y1)
theorem spec_Fresh_d {a0:Int} {a1:Int} {r:Bool}:spec_Fresh.raw a0 a1=some r→r=tFresh a0 a1:=Le.out (by unfold spec_Fresh.raw tFresh;exact .j (fun _=> .and (.and .rfl)) .rfl)
def tDiff (a0:List UInt8) (a1:List UInt8):Int:=(bif (a0.length:Int) !=(a1.length:Int) then (-1) else 
  (let y1:Int:= 
  (let x3:=iter (fun (x3:Int × Int)=> 
  (let e5:=(idxI a0 x3.2).getD default
  (let e6:=(idxI a1 x3.2).getD default
  (let x7:Int:=ixor .u8 ((e5.toNat:Nat):Int) ((e6.toNat:Nat):Int)
  ((ior .i64 x3.1 (IntKind.wrap .i64 x7)),(iadd .i64 x3.2 1)))))) ((a0.length:Int):Int).toNat (0,0)
 x3.1)
 y1))
theorem spec_Diff_d {a0:List UInt8} {a1:List UInt8} {r:Int}:spec_Diff.raw a0 a1=some r→r=tDiff a0 a1:=Le.out (by unfold spec_Diff.raw tDiff;exact .cs .rfl (.j (fun _=> .it (fun _ _=> .b (fun _=>getD_d) (.b (fun _=>getD_d) .rfl)) .rfl rfl (fun _=>rfl)) .rfl))
def tSameTag (a0:List UInt8) (a1:List UInt8):Bool:=(let y1:Bool:=(((a0.length:Int)==16)&& 
  (let r3:=tDiff a0 a1
  (r3==0)))
 y1)
theorem spec_SameTag_d {a0:List UInt8} {a1:List UInt8} {r:Bool}:spec_SameTag.raw a0 a1=some r→r=tSameTag a0 a1:=Le.out (by unfold spec_SameTag.raw tSameTag;exact .j (fun _=> .and (.b (fun _=>spec_Diff_d) .rfl)) .rfl)
def tJudge (a0:G.Jar) (a1:Int) (a2:G.Addr) (a3:G.Frame):Int:=(let y1:Bool:=((!(jarOk a0))||((!(inR a1 0 1000000))||((!(addrOk a2))||((!(frameOk a3))||(a3.Kind !=3)))))
  (bif y1 then 1 else 
  (let r3:=tFresh a1 a3.Tick
  (bif !r3 then 9 else 
  (let r4:=tMint a0 a2 a3.Id a3.Cn a3.Sn a3.Tick
  (let r5:=tSameTag a3.Cookie r4
  (bif !r5 then 2 else 0)))))))
theorem spec_Judge_d {a0:G.Jar} {a1:Int} {a2:G.Addr} {a3:G.Frame} {r:Int}:spec_Judge.raw a0 a1 a2 a3=some r→r=tJudge a0 a1 a2 a3:=Le.out (by unfold spec_Judge.raw tJudge;exact .j (fun _=> .or (.or (.or (.or .rfl)))) (.cs .rfl (.b (fun _=>spec_Fresh_d) (.cs .rfl (.b (fun _=>spec_Mint_d) (.b (fun _=>spec_SameTag_d) (.cs .rfl .rfl)))))))
def tExtract (a0:List UInt8) (a1:List UInt8):List UInt8:=(let r1:(List UInt8):=hmac a0 a1
 r1)
theorem spec_Extract_d {a0:List UInt8} {a1:List UInt8} {r:List UInt8}:spec_Extract.raw a0 a1=some r→r=tExtract a0 a1:=Le.out (by unfold spec_Extract.raw tExtract;exact .rfl)
def tFinishKey (a0:List UInt8):List UInt8:=(bif !(pskOk a0) then [] else 
  (let x1:List UInt8:=[UInt8.ofNat (114:Int).toNat,UInt8.ofNat (111:Int).toNat,UInt8.ofNat (97:Int).toNat,UInt8.ofNat (109:Int).toNat]
  (let r2:=tExtract x1 a0
  (let r3:=derive r2 [102,105,110,105,115,104]
 r3))))
theorem spec_FinishKey_d {a0:List UInt8} {r:List UInt8}:spec_FinishKey.raw a0=some r→r=tFinishKey a0:=Le.out (by unfold spec_FinishKey.raw tFinishKey;exact .cs .rfl (.b (fun _=>spec_Extract_d) (.b (fun _=>pt_d) .rfl)))
def tProofBody (a0:Int) (a1:List UInt8) (a2:List UInt8) (a3:Int) (a4:List UInt8):List UInt8:=(let y1:Bool:=((!(inR a0 1 9))||(((a1.length:Int) !=12)||(((a2.length:Int) !=12)||((!(inR a3 0 1000000))||((a4.length:Int) !=16)))))
  (bif y1 then [] else 
  (let x3:List UInt8:=[UInt8.ofNat (102:Int).toNat,UInt8.ofNat (IntKind.wrap .u8 a0:Int).toNat]
  (let r4:=putN ((x3++a1)++a2) a3 4
  (r4++a4)))))
theorem spec_ProofBody_d {a0:Int} {a1:List UInt8} {a2:List UInt8} {a3:Int} {a4:List UInt8} {r:List UInt8}:spec_ProofBody.raw a0 a1 a2 a3 a4=some r→r=tProofBody a0 a1 a2 a3 a4:=Le.out (by unfold spec_ProofBody.raw tProofBody;exact .j (fun _=> .or (.or (.or (.or .rfl)))) (.cs .rfl (.g (.g (.b (fun _=>pt_d) (.g .rfl))))))
def tProof (a0:List UInt8) (a1:Int) (a2:List UInt8) (a3:List UInt8) (a4:Int) (a5:List UInt8):List UInt8:=(let r1:=tFinishKey a0
  (let r2:=tProofBody a1 a2 a3 a4 a5
  (let y3:Bool:=(((r1.length:Int)==0)||((r2.length:Int)==0))
  (bif y3 then [] else 
  (let r5:=tTag r1 r2
 r5)))))
theorem spec_Proof_d {a0:List UInt8} {a1:Int} {a2:List UInt8} {a3:List UInt8} {a4:Int} {a5:List UInt8} {r:List UInt8}:spec_Proof.raw a0 a1 a2 a3 a4 a5=some r→r=tProof a0 a1 a2 a3 a4 a5:=Le.out (by unfold spec_Proof.raw tProof;exact .b (fun _=>spec_FinishKey_d) (.b (fun _=>spec_ProofBody_d) (.j (fun _=> .or .rfl) (.cs .rfl (.b (fun _=>spec_Tag_d) .rfl)))))
def tProofOk (a0:List UInt8) (a1:G.Frame):Bool:=(let y1:Bool:=(((frameOk a1))&&((a1.Kind==3)&& 
  (let r3:=tProof a0 a1.Id a1.Cn a1.Sn a1.Tick a1.Cookie
  (let r4:=tSameTag a1.Proof r3
 r4))))
 y1)
theorem spec_ProofOk_d {a0:List UInt8} {a1:G.Frame} {r:Bool}:spec_ProofOk.raw a0 a1=some r→r=tProofOk a0 a1:=Le.out (by unfold spec_ProofOk.raw tProofOk;exact .j (fun _=> .and (.and (.b (fun _=>spec_Proof_d) (.b (fun _=>spec_SameTag_d) .rfl)))) .rfl)
def tRootKey (a0:List UInt8) (a1:List UInt8) (a2:List UInt8):List UInt8:=(let y1:Bool:=((!(pskOk a0))||(((a1.length:Int) !=12)||((a2.length:Int) !=12)))
  (bif y1 then [] else 
  (let r3:=tExtract ((a1)++a2) a0
 r3)))
theorem spec_RootKey_d {a0:List UInt8} {a1:List UInt8} {a2:List UInt8} {r:List UInt8}:spec_RootKey.raw a0 a1 a2=some r→r=tRootKey a0 a1 a2:=Le.out (by unfold spec_RootKey.raw tRootKey;exact .j (fun _=> .or (.or .rfl)) (.cs .rfl (.g (.g (.b (fun _=>spec_Extract_d) .rfl)))))
def tFirstKey (a0:List UInt8):List UInt8:=(bif (a0.length:Int) !=32 then [] else 
  (let r1:=derive a0 [101,112,111,99,104]
 r1))
theorem spec_FirstKey_d {a0:List UInt8} {r:List UInt8}:spec_FirstKey.raw a0=some r→r=tFirstKey a0:=Le.out (by unfold spec_FirstKey.raw tFirstKey;exact .cs .rfl (.b (fun _=>pt_d) .rfl))
def tChain (a0:List UInt8) (a1:Int):List UInt8:=(bif !(inR a1 0 64) then [] else 
  (let y1:(List UInt8):= 
  (let x3:=iter (fun (x3:(List UInt8) × Int)=> 
  (let r5:=derive x3.1 [114,101,107,101,121]
  (r5,(iadd .i64 x3.2 1)))) (a1:Int).toNat ((a0),0)
 x3.1)
 y1))
theorem spec_Chain_d {a0:List UInt8} {a1:Int} {r:List UInt8}:spec_Chain.raw a0 a1=some r→r=tChain a0 a1:=Le.out (by unfold spec_Chain.raw tChain;exact .cs .rfl (.g (.j (fun _=> .it (fun _ _=> .b (fun _=>pt_d) .rfl) .rfl rfl (fun _=>rfl)) .rfl)))
def tEpochKey (a0:List UInt8) (a1:List UInt8) (a2:List UInt8) (a3:Int):List UInt8:=(let r1:=tRootKey a0 a1 a2
  (let r2:=tFirstKey r1
  (bif (r2.length:Int)==0 then r2 else 
  (let r3:=tChain r2 a3
 r3))))
theorem spec_EpochKey_d {a0:List UInt8} {a1:List UInt8} {a2:List UInt8} {a3:Int} {r:List UInt8}:spec_EpochKey.raw a0 a1 a2 a3=some r→r=tEpochKey a0 a1 a2 a3:=Le.out (by unfold spec_EpochKey.raw tEpochKey;exact .b (fun _=>spec_RootKey_d) (.b (fun _=>spec_FirstKey_d) (.cs .rfl (.b (fun _=>spec_Chain_d) .rfl))))
def tWinNew:G.Win:=(let y1:G.Win:= 
  (let x3:=iter (fun (x3:Int × G.Win)=>((iadd .i64 x3.1 1),(⟨x3.2.Top,x3.2.Bits++[0]⟩:G.Win))) (32:Int).toNat (0,(⟨(-1),[]⟩:G.Win))
 x3.2)
 y1)
theorem spec_WinNew_d {r:G.Win}:spec_WinNew.raw=some r→r=tWinNew:=Le.out (by unfold spec_WinNew.raw tWinNew;exact .j (fun _=> .it (fun _ _=> .g .rfl) .rfl rfl (fun _=>rfl)) .rfl)
def tEpNew (a0:Int) (a1:List UInt8):G.Ep:=(let y1:Bool:=((!(inR a0 0 4294967295))||((a1.length:Int) !=32))
  (bif y1 then (⟨0,[],0,(⟨0,[]⟩:G.Win)⟩:G.Ep) else (⟨a0,a1,0,tWinNew⟩:G.Ep)))
theorem spec_EpNew_d {a0:Int} {a1:List UInt8} {r:G.Ep}:spec_EpNew.raw a0 a1=some r→r=tEpNew a0 a1:=Le.out (by unfold spec_EpNew.raw tEpNew;exact .j (fun _=> .or .rfl) (.cs .rfl (.g (.b (fun _=>spec_WinNew_d) .rfl))))
def tChanNew (a0:Int) (a1:List UInt8) (a2:List UInt8):G.Chan:=(let y1:Bool:=((!(inR a0 0 1))||(((a1.length:Int) !=12)||((a2.length:Int) !=32)))
  (bif y1 then (⟨0,[],(⟨0,[],0,(⟨0,[]⟩:G.Win)⟩:G.Ep),(⟨0,[],0,(⟨0,[]⟩:G.Win)⟩:G.Ep),false,0,[]⟩:G.Chan) else 
  (let r3:=tEpNew 0 a2
  (⟨a0,a1,r3,(⟨0,[],0,(⟨0,[]⟩:G.Win)⟩:G.Ep),false,0,[]⟩:G.Chan))))
theorem spec_ChanNew_d {a0:Int} {a1:List UInt8} {a2:List UInt8} {r:G.Chan}:spec_ChanNew.raw a0 a1 a2=some r→r=tChanNew a0 a1 a2:=Le.out (by unfold spec_ChanNew.raw tChanNew;exact .j (fun _=> .or (.or .rfl)) (.cs .rfl (.g (.b (fun _=>spec_EpNew_d) .rfl))))
def tPathsNew (a0:G.Addr):G.Paths:=(⟨a0,[]⟩:G.Paths)
theorem spec_PathsNew_d {a0:G.Addr} {r:G.Paths}:spec_PathsNew.raw a0=some r→r=tPathsNew a0:=Le.out (by unfold spec_PathsNew.raw tPathsNew;exact .rfl)
def tSessNew (a0:List UInt8) (a1:Int) (a2:G.Addr) (a3:G.Frame):G.Sess:=(let y1:Bool:=((!(pskOk a0))||((!(inR a1 0 1000000))||((!(addrOk a2))||((!(frameOk a3))||(a3.Kind !=3)))))
  (bif y1 then (⟨0,[],[],(⟨0,[],(⟨0,[],0,(⟨0,[]⟩:G.Win)⟩:G.Ep),(⟨0,[],0,(⟨0,[]⟩:G.Win)⟩:G.Ep),false,0,[]⟩:G.Chan),(⟨(⟨0,0⟩:G.Addr),[]⟩:G.Paths),0,0,false⟩:G.Sess) else 
  (let r3:=tEpochKey a0 a3.Cn a3.Sn 0
  (let r4:=tChanNew 1 a3.Sn r3
  (let r5:=tPathsNew a2
  (⟨a3.Id,a3.Cn,a3.Sn,r4,r5,a3.Tick,a1,false⟩:G.Sess))))))
theorem spec_SessNew_d {a0:List UInt8} {a1:Int} {a2:G.Addr} {a3:G.Frame} {r:G.Sess}:spec_SessNew.raw a0 a1 a2 a3=some r→r=tSessNew a0 a1 a2 a3:=Le.out (by unfold spec_SessNew.raw tSessNew;exact .j (fun _=> .or (.or (.or (.or .rfl)))) (.cs .rfl (.g (.g (.b (fun _=>spec_EpochKey_d) (.b (fun _=>spec_ChanNew_d) (.b (fun _=>spec_PathsNew_d) .rfl)))))))
def tAddSess (a0:G.Tab) (a1:G.Sess):G.Tab × Int:=(let y2:Bool:= 
  (let r4:=tabOk a0
  ((!r4)|| 
  (let r5:=sessOk a1
  ((!r5)||a1.Dead))))
  (bif y2 then (a0,1) else 
  (let r6:=findSn a0 a1.Sn
  (bif decide (r6≥0) then (a0,3) else 
  (let y7:Bool:= 
  (let r9:=live a0
  ((r9==a0.Cap)||((a0.L.length:Int)==12)))
  (bif y7 then (a0,7) else ((⟨a0.Cap,a0.L++[a1]⟩:G.Tab),0)))))))
theorem spec_AddSess_d {a0:G.Tab} {a1:G.Sess} {r:G.Tab × Int}:spec_AddSess.raw a0 a1=some r→r=tAddSess a0 a1:=Le.out (by unfold spec_AddSess.raw tAddSess;exact .b (fun _=>pt_d) (.j (fun _=> .b (fun _=>pt_d) (.or (.b (fun _=>pt_d) (.or .rfl)))) (.cs .rfl (.b (fun _=>pt_d) (.cs .rfl (.j (fun _=> .b (fun _=>pt_d) (.or .rfl)) (.cs .rfl (.b (fun _=>pt_d) (.g .rfl)))))))))
def tTook (a0:List UInt8) (a1:List UInt8) (a2:List UInt8):G.Note:=(⟨16,0,0,[],a1,0,0,a2,a0,(⟨0,0⟩:G.Addr),0⟩:G.Note)
theorem spec_Took_d {a0:List UInt8} {a1:List UInt8} {a2:List UInt8} {r:G.Note}:spec_Took.raw a0 a1 a2=some r→r=tTook a0 a1 a2:=Le.out (by unfold spec_Took.raw tTook;exact .g (.g (.g .rfl)))
def tAck (a0:G.Chan):G.Chan × G.Frame × Int:=(let y1:Bool:= 
  (let r3:=chanOk a0
  ((!r3)||(a0.Role !=1)))
  (bif y1 then (a0,(⟨0,0,[],[],0,[],[],0,0,[],[]⟩:G.Frame),6) else 
  (let r5:=tRekeyBody a0.Cur.N
  (let r6:=tChanSeal a0 8 r5
  (r6.1,r6.2.1,r6.2.2)))))
theorem spec_Ack_d {a0:G.Chan} {r:G.Chan × G.Frame × Int}:spec_Ack.raw a0=some r→r=tAck a0:=Le.out (by unfold spec_Ack.raw tAck;exact .j (fun _=> .b (fun _=>pt_d) (.or .rfl)) (.cs (.b (fun _=>pt_d) .rfl) (.b (fun _=>spec_RekeyBody_d) (.b (fun _=>spec_ChanSeal_d) .rfl))))
def tSessAck (a0:G.Sess):G.Sess × (List G.Out) × (List G.Note):=(let y2:Bool:= 
  (let r4:=sessOk a0
  ((!r4)||((a0.Dead)||(a0.C.Cur.N !=0))))
  (bif y2 then (a0,[],[]) else 
  (let r5:=tAck a0.C
  (bif r5.2.2 !=0 then (a0,[],[]) else 
  (let r6:=tl19Made r5.1 r5.2.1
  ((⟨a0.Id,a0.Cn,a0.Sn,r5.1,a0.P,a0.Tick,a0.Last,a0.Dead⟩:G.Sess),[(⟨a0.P.At,r5.2.1⟩:G.Out)],[r6]))))))
theorem spec_SessAck_d {a0:G.Sess} {r:G.Sess × (List G.Out) × (List G.Note)}:spec_SessAck.raw a0=some r→r=tSessAck a0:=Le.out (by unfold spec_SessAck.raw tSessAck;exact .b (fun _=>pt_d) (.j (fun _=> .b (fun _=>pt_d) (.or (.or .rfl))) (.cs .rfl (.b (fun _=>spec_Ack_d) (.cs .rfl (.b (fun _=>spec_l19Made_d) .rfl))))))
def tl8Least (a0:Int):Int:=(bif decide (a0<1024) then 0 else (iadd .i64 (isub .i64 a0 1024) 1))
theorem spec_l8Least_d {a0:Int} {r:Int}:spec_l8Least.raw a0=some r→r=tl8Least a0:=Le.out (by unfold spec_l8Least.raw tl8Least;exact .cs .rfl .rfl)
def tWinMay (a0:G.Win) (a1:Int):Bool:=(let y1:Bool:=((!(winOk a0))||(!(inR a1 0 281474976710655)))
  (bif y1 then false else 
  (let y3:Bool:=((decide (a1>a0.Top))|| 
  (let r5:=tl8Least a0.Top
  ((decide (a1≥r5))&& 
  (let r6:=bitAt a0 (a1).toNat
  (!r6)))))
 y3)))
theorem spec_WinMay_d {a0:G.Win} {a1:Int} {r:Bool}:spec_WinMay.raw a0 a1=some r→r=tWinMay a0 a1:=Le.out (by unfold spec_WinMay.raw tWinMay;exact .j (fun _=> .or .rfl) (.cs .rfl (.j (fun _=> .or (.b (fun _=>spec_l8Least_d) (.and (.b (fun _=>pt_d) .rfl)))) .rfl)))
def tUnseal (a0:List UInt8) (a1:Int) (a2:G.Frame):(List UInt8) × Bool:=(let r1:=tTagInput a1 a2
  (let y2:Bool:=(((a0.length:Int) !=32)||(((r1.length:Int)==0)|| 
  (let r4:=tTag a0 r1
  (let r5:=tSameTag a2.Tag r4
  (!r5)))))
  (bif y2 then ([],false) else 
  (let r6:=tHeadOf a1 a2.Sn a2.Epoch a2.Seq
  (let r7:=tMix a0 r6 a2.Body
  (r7,true))))))
theorem spec_Unseal_d {a0:List UInt8} {a1:Int} {a2:G.Frame} {r:(List UInt8) × Bool}:spec_Unseal.raw a0 a1 a2=some r→r=tUnseal a0 a1 a2:=Le.out (by unfold spec_Unseal.raw tUnseal;exact .b (fun _=>spec_TagInput_d) (.j (fun _=> .or (.or (.b (fun _=>spec_Tag_d) (.b (fun _=>spec_SameTag_d) .rfl)))) (.cs .rfl (.b (fun _=>spec_HeadOf_d) (.b (fun _=>spec_Mix_d) .rfl)))))
def tEpOpen (a0:G.Ep) (a1:Int) (a2:G.Frame):G.Ep × (List UInt8) × Int:=(let y2:Bool:=((!(epOk a0))|| 
  (let r4:=tTagInput a1 a2
  (((r4.length:Int)==0)||(a2.Epoch !=a0.N))))
  (bif y2 then (a0,[],1) else 
  (let r5:=tWinMay a0.Win a2.Seq
  (bif !r5 then (a0,[],3) else 
  (let r6:=tUnseal a0.Key a1 a2
  (bif !r6.2 then (a0,[],2) else 
  (let r7:=(spec_WinAdd.raw a0.Win a2.Seq).getD default
  ((⟨a0.N,a0.Key,a0.Seq,r7.1⟩:G.Ep),r6.1,0))))))))
theorem spec_EpOpen_d {a0:G.Ep} {a1:Int} {a2:G.Frame} {r:G.Ep × (List UInt8) × Int}:spec_EpOpen.raw a0 a1 a2=some r→r=tEpOpen a0 a1 a2:=Le.out (by unfold spec_EpOpen.raw tEpOpen;exact .b (fun _=>pt_d) (.j (fun _=> .or (.b (fun _=>spec_TagInput_d) (.or .rfl))) (.cs .rfl (.b (fun _=>spec_WinMay_d) (.cs .rfl (.b (fun _=>spec_Unseal_d) (.cs .rfl (.b (fun _=>getD_d) .rfl))))))))
def tChanOpen (a0:G.Chan) (a1:Int) (a2:G.Frame):G.Chan × (List UInt8) × Int:=(let y2:Bool:= 
  (let r4:=chanOk a0
  ((!r4)||((!(inR a1 0 1000000))||((!(frameOk a2))||(!(isSealed a2.Kind))))))
  (bif y2 then (a0,[],1) else 
  (let r5:=(a2.Sn==a0.Sn)
  (bif !r5 then (a0,[],8) else (bif a2.Epoch==a0.Cur.N then 
  (let r6:=tEpOpen a0.Cur (isub .i64 1 a0.Role) a2
  (bif r6.2.2 !=0 then (a0,[],r6.2.2) else 
  (let y7:Bool:=((a0.HasOld)&&(a0.Until==(-1)))
  (let y9:G.Chan:=(bif y7 then (⟨a0.Role,a0.Sn,r6.1,a0.Old,a0.HasOld,iadd .i64 a1 5,a0.Next⟩:G.Chan) else (⟨a0.Role,a0.Sn,r6.1,a0.Old,a0.HasOld,a0.Until,a0.Next⟩:G.Chan))
  (y9,r6.2.1,0))))) else 
  (let y11:Bool:=((a0.HasOld)&&(a2.Epoch==a0.Old.N))
  (bif y11 then 
  (let y13:Bool:=((a0.Until !=(-1))&&(decide (a1>a0.Until)))
  (bif y13 then (a0,[],9) else 
  (let r15:=tEpOpen a0.Old (isub .i64 1 a0.Role) a2
  (bif r15.2.2 !=0 then (a0,[],r15.2.2) else ((⟨a0.Role,a0.Sn,a0.Cur,r15.1,a0.HasOld,a0.Until,a0.Next⟩:G.Chan),r15.2.1,0))))) else 
  (let y16:Bool:=((decide ((a0.Next.length:Int)>0))&&(a2.Epoch==(iadd .i64 a0.Cur.N 1)))
  (bif y16 then 
  (let r18:=tEpNew (iadd .i64 a0.Cur.N 1) a0.Next
  (let r19:=tEpOpen r18 (isub .i64 1 a0.Role) a2
  (bif r19.2.2 !=0 then (a0,[],r19.2.2) else ((⟨a0.Role,a0.Sn,r19.1,a0.Cur,true,iadd .i64 a1 5,[]⟩:G.Chan),r19.2.1,0)))) else (a0,[],8))))))))))
theorem spec_ChanOpen_d {a0:G.Chan} {a1:Int} {a2:G.Frame} {r:G.Chan × (List UInt8) × Int}:spec_ChanOpen.raw a0 a1 a2=some r→r=tChanOpen a0 a1 a2:=Le.out (by unfold spec_ChanOpen.raw tChanOpen;exact .b (fun _=>pt_d) (.j (fun _=> .b (fun _=>pt_d) (.or (.or (.or .rfl)))) (.cs .rfl (.b (fun _=>pt_d) (.cs .rfl (.cs (.b (fun _=>spec_EpOpen_d) (.cs .rfl (.j (fun _=> .and .rfl) (.j (fun _=> .c .rfl .rfl) .rfl)))) (.j (fun _=> .and .rfl) (.cs (.j (fun _=> .and .rfl) (.cs .rfl (.b (fun _=>spec_EpOpen_d) (.cs .rfl .rfl)))) (.j (fun _=> .and .rfl) (.cs (.b (fun _=>spec_EpNew_d) (.b (fun _=>spec_EpOpen_d) (.cs .rfl .rfl))) .rfl))))))))))
def tKeyFor (a0:G.Chan) (a1:Int):(List UInt8) × Bool:=(let r1:=chanOk a0
  (bif !r1 then ([],false) else 
  (let y2:Bool:=((a0.HasOld)&&(a1==a0.Old.N))
  (bif y2 then (a0.Old.Key,true) else (bif a1==a0.Cur.N then (a0.Cur.Key,true) else 
  (let y4:Bool:=((decide ((a0.Next.length:Int)>0))&&(a1==(iadd .i64 a0.Cur.N 1)))
  (bif y4 then (a0.Next,true) else ([],false))))))))
theorem spec_KeyFor_d {a0:G.Chan} {a1:Int} {r:(List UInt8) × Bool}:spec_KeyFor.raw a0 a1=some r→r=tKeyFor a0 a1:=Le.out (by unfold spec_KeyFor.raw tKeyFor;exact .b (fun _=>pt_d) (.cs .rfl (.j (fun _=> .and .rfl) (.cs (.g .rfl) (.cs (.g .rfl) (.j (fun _=> .and .rfl) (.cs (.g .rfl) .rfl)))))))
def tAnswer (a0:G.Paths) (a1:Int) (a2:G.Addr) (a3:List UInt8):G.Paths × Bool:=(let r1:=candOf a0 a2
  (let y2:Bool:=((!r1.2)||((!(inR a1 0 1000000))|| 
  (let r4:=(r1.1.Draw==a3)
  ((!r4)||(decide (a1>r1.1.Until))))))
  (bif y2 then (a0,false) else 
  (let y6:G.Paths:= 
  (let x8:=iter (fun (x8:Int × G.Paths)=> 
  (let e10:=(idxI a0.Cands x8.1).getD default
  (let x11:Bool:=!(cond (e10.A.Host==a2.Host) (cond (e10.A.Port==a2.Port) (true) false) false)
  (let y12:G.Paths:=(bif x11 then 
  (let e14:=(idxI a0.Cands x8.1).getD default
  (⟨x8.2.At,x8.2.Cands++[e14]⟩:G.Paths)) else x8.2)
  ((iadd .i64 x8.1 1),y12))))) ((a0.Cands.length:Int):Int).toNat (0,(⟨a2,[]⟩:G.Paths))
 x8.2)
  (y6,true)))))
theorem spec_Answer_d {a0:G.Paths} {a1:Int} {a2:G.Addr} {a3:List UInt8} {r:G.Paths × Bool}:spec_Answer.raw a0 a1 a2 a3=some r→r=tAnswer a0 a1 a2 a3:=Le.out (by unfold spec_Answer.raw tAnswer;exact .b (fun _=>pt_d) (.j (fun _=> .or (.or (.b (fun _=>pt_d) (.or .rfl)))) (.cs (.b (fun _=>pt_d) .rfl) (.j (fun _=> .it (fun _ _=> .b (fun _=>getD_d) (.j (fun _=> .c (.b (fun _=>getD_d) (.b (fun _=>pt_d) (.g .rfl))) .rfl) .rfl)) .rfl rfl (fun _=>rfl)) .rfl))))
def tTurn (a0:G.Chan):G.Chan × Bool:=(let y2:Bool:= 
  (let r4:=chanOk a0
  ((!r4)||((a0.Role !=1)||(a0.Cur.N==4294967295))))
  (bif y2 then (a0,false) else 
  (let r5:=derive a0.Cur.Key [114,101,107,101,121]
  (let r6:=tEpNew (iadd .i64 a0.Cur.N 1) r5
  ((⟨a0.Role,a0.Sn,r6,a0.Cur,true,(-1),a0.Next⟩:G.Chan),true)))))
theorem spec_Turn_d {a0:G.Chan} {r:G.Chan × Bool}:spec_Turn.raw a0=some r→r=tTurn a0:=Le.out (by unfold spec_Turn.raw tTurn;exact .b (fun _=>pt_d) (.j (fun _=> .b (fun _=>pt_d) (.or (.or .rfl))) (.cs .rfl (.b (fun _=>pt_d) (.b (fun _=>spec_EpNew_d) .rfl)))))
def tHearRekey (a0:G.Chan) (a1:Int) (a2:List UInt8):G.Chan × Int:=(let y2:Bool:= 
  (let r4:=chanOk a0
  ((!r4)||((a0.Role !=1)||((!(inR a1 0 4294967294))|| 
  (let r5:=tRekeyBody (iadd .i64 a1 1)
  (let r6:=(a2==r5)
  (!r6)))))))
  (bif y2 then (a0,6) else (bif a1==a0.Cur.N then 
  (let r7:=tTurn a0
  (bif !r7.2 then (a0,6) else (r7.1,0))) else (bif a1==(isub .i64 a0.Cur.N 1) then (a0,0) else (a0,6)))))
theorem spec_HearRekey_d {a0:G.Chan} {a1:Int} {a2:List UInt8} {r:G.Chan × Int}:spec_HearRekey.raw a0 a1 a2=some r→r=tHearRekey a0 a1 a2:=Le.out (by unfold spec_HearRekey.raw tHearRekey;exact .b (fun _=>pt_d) (.j (fun _=> .b (fun _=>pt_d) (.or (.or (.or (.b (fun _=>spec_RekeyBody_d) (.b (fun _=>pt_d) .rfl)))))) (.cs .rfl (.cs (.b (fun _=>spec_Turn_d) (.cs .rfl .rfl)) (.cs .rfl .rfl)))))
def tSessHear (a0:G.Sess) (a1:Int) (a2:G.Addr) (a3:G.Frame) (a4:List UInt8):G.Sess × (List G.Out) × (List G.Note) × Bool:=(let y2:Bool:= 
  (let r4:=sessOk a0
  ((!r4)||((a0.Dead)||(!(addrOk a2)))))
  (bif y2 then (a0,[],[],false) else 
  (let r5:=tChanOpen a0.C a1 a3
  (bif r5.2.2 !=0 then (a0,[],[],false) else 
  (let r6:=tKeyFor a0.C a3.Epoch
  (let r7:=tTagInput 0 a3
  (let r8:=tTook r6.1 a0.Sn r7
  (let y9:(List G.Out) × (List G.Note) × G.Sess:=(bif a3.Kind==4 then 
  (let x11:List G.Note:=[(⟨6,0,0,[],a0.Sn,a3.Epoch,a3.Seq,r5.2.1,[],(⟨0,0⟩:G.Addr),a1⟩:G.Note)]
  ([],(([r8])++x11),(⟨a0.Id,a0.Cn,a0.Sn,r5.1,a0.P,a0.Tick,a1,a0.Dead⟩:G.Sess))) else 
  (let y12:(List G.Out) × (List G.Note) × G.Sess:=(bif a3.Kind==6 then 
  (let r14:=tAnswer a0.P a1 a2 r5.2.1
  (let y15:(List G.Note) × G.Sess:=(bif r14.2 then 
  (let x17:List G.Note:=[(⟨9,0,0,[],a0.Sn,0,0,r5.2.1,[],a2,a1⟩:G.Note)]
  ((([r8])++x17),(⟨a0.Id,a0.Cn,a0.Sn,r5.1,r14.1,a0.Tick,a1,a0.Dead⟩:G.Sess))) else (([r8]),(⟨a0.Id,a0.Cn,a0.Sn,r5.1,a0.P,a0.Tick,a1,a0.Dead⟩:G.Sess)))
  ([],y15.1,y15.2))) else 
  (let y18:(List G.Out) × (List G.Note) × G.Sess:=(bif a3.Kind==7 then 
  (let r20:=tHearRekey r5.1 a3.Epoch r5.2.1
  (let y21:(List G.Out) × (List G.Note) × G.Sess:=(bif r20.2==0 then 
  (let y23:(List G.Note):=(bif r20.1.Cur.N !=r5.1.Cur.N then 
  (let x25:List G.Note:=[(⟨10,0,1,[],a0.Sn,r20.1.Cur.N,0,[],r20.1.Cur.Key,(⟨0,0⟩:G.Addr),0⟩:G.Note)]
  (([r8])++x25)) else ([r8]))
  (let r26:=tAck r20.1
  (let y27:(List G.Out) × (List G.Note) × G.Sess:=(bif r26.2.2==0 then 
  (let r29:=tl19Made r26.1 r26.2.1
  (([(⟨a0.P.At,r26.2.1⟩:G.Out)]),(y23++[r29]),(⟨a0.Id,a0.Cn,a0.Sn,r26.1,a0.P,a0.Tick,a1,a0.Dead⟩:G.Sess))) else ([],y23,(⟨a0.Id,a0.Cn,a0.Sn,r20.1,a0.P,a0.Tick,a1,a0.Dead⟩:G.Sess)))
  (y27.1,y27.2.1,y27.2.2)))) else ([],([r8]),(⟨a0.Id,a0.Cn,a0.Sn,r5.1,a0.P,a0.Tick,a1,a0.Dead⟩:G.Sess)))
  (y21.1,y21.2.1,y21.2.2))) else ([],([r8]),(⟨a0.Id,a0.Cn,a0.Sn,r5.1,a0.P,a0.Tick,a1,a0.Dead⟩:G.Sess)))
  (y18.1,y18.2.1,y18.2.2)))
  (y12.1,y12.2.1,y12.2.2)))
  (let r30:=(spec_Offer.raw y9.2.2.P a1 a2 a4).getD default
  (let r31:=tChanSeal y9.2.2.C 5 a4
  (let y32:Bool:=((!r30.2)||(r31.2.2 !=0))
  (bif y32 then (y9.2.2,y9.1,y9.2.1,false) else 
  (let r34:=tl19Made r31.1 r31.2.1
  ((⟨y9.2.2.Id,y9.2.2.Cn,y9.2.2.Sn,r31.1,r30.1,y9.2.2.Tick,y9.2.2.Last,y9.2.2.Dead⟩:G.Sess),y9.1++[(⟨a2,r31.2.1⟩:G.Out)],y9.2.1++[r34],true))))))))))))))
theorem spec_SessHear_d {a0:G.Sess} {a1:Int} {a2:G.Addr} {a3:G.Frame} {a4:List UInt8} {r:G.Sess × (List G.Out) × (List G.Note) × Bool}:spec_SessHear.raw a0 a1 a2 a3 a4=some r→r=tSessHear a0 a1 a2 a3 a4:=Le.out (by unfold spec_SessHear.raw tSessHear;exact .b (fun _=>pt_d) (.j (fun _=> .b (fun _=>pt_d) (.or (.or .rfl))) (.cs .rfl (.b (fun _=>spec_ChanOpen_d) (.cs .rfl (.b (fun _=>spec_KeyFor_d) (.b (fun _=>spec_TagInput_d) (.b (fun _=>spec_Took_d) (.g (.j (fun _=> .c (.g (.g (.g .rfl))) (.j (fun _=> .c (.b (fun _=>spec_Answer_d) (.j (fun _=> .c (.g (.g (.g .rfl))) .rfl) .rfl)) (.j (fun _=> .c (.b (fun _=>spec_HearRekey_d) (.j (fun _=> .c (.j (fun _=> .c (.g (.g (.g .rfl))) .rfl) (.b (fun _=>spec_Ack_d) (.j (fun _=> .c (.g (.b (fun _=>spec_l19Made_d) (.g .rfl))) .rfl) .rfl))) .rfl) .rfl)) .rfl) .rfl)) .rfl)) (.b (fun _=>getD_d) (.b (fun _=>spec_ChanSeal_d) (.j (fun _=> .or .rfl) (.cs .rfl (.g (.b (fun _=>spec_l19Made_d) (.g .rfl)))))))))))))))))
def tSizeOf (a0:G.Frame):Int:=(let r1:=tPutFrame a0
  (r1.length:Int))
theorem spec_SizeOf_d {a0:G.Frame} {r:Int}:spec_SizeOf.raw a0=some r→r=tSizeOf a0:=Le.out (by unfold spec_SizeOf.raw tSizeOf;exact .b (fun _=>spec_PutFrame_d) .rfl)
def tSpend (a0:List G.Credit) (a1:G.Addr) (a2:Int):(List G.Credit) × Bool:=(let y1:Bool:=((decide ((cAt a0 a1)<0))||((!(creditsOk a0))|| 
  (let r3:=tRoomFor a0 a1
  (!(inR a2 0 r3)))))
  (bif y1 then (a0,false) else 
  (let e4:=((a0)[(cAt a0 a1).toNat]?).getD default
  (let e5:=((a0)[(cAt a0 a1).toNat]?).getD default
  (let l6:List G.Credit:=List.set (a0) ((cAt a0 a1).toNat) (⟨e5.A,e5.Got,iadd .i64 e4.Sent a2⟩:G.Credit)
  (l6,true))))))
theorem spec_Spend_d {a0:List G.Credit} {a1:G.Addr} {a2:Int} {r:(List G.Credit) × Bool}:spec_Spend.raw a0 a1 a2=some r→r=tSpend a0 a1 a2:=Le.out (by unfold spec_Spend.raw tSpend;exact .g (.j (fun _=> .or (.or (.b (fun _=>spec_RoomFor_d) .rfl))) (.cs .rfl (.g (.b (fun _=>getD_d) (.g (.b (fun _=>getD_d) .rfl)))))))
def tl22Out (a0:G.Server) (a1:List G.Out):(List G.Out) × G.Server:=(let y1:(List G.Out) × G.Server:= 
  (let x3:=iter (fun (x3:(List G.Out) × Int × G.Server)=> 
  (let y5:(List G.Out) × G.Server:= 
  (let e7:=(idxI a1 x3.2.1).getD default
  (let r8:=(spec_AtOf.raw x3.2.2.T e7.To).getD default
  (bif !r8 then 
  (let e11:=(idxI a1 x3.2.1).getD default
  (let e12:=(idxI a1 x3.2.1).getD default
  (let r13:=tSizeOf e12.F
  (let r14:=tSpend x3.2.2.Cr e11.To r13
  (bif !r14.2 then (x3.1,x3.2.2) else 
  (let e15:=(idxI a1 x3.2.1).getD default
  ((x3.1++[e15]),(⟨x3.2.2.Psks,x3.2.2.J,x3.2.2.D,x3.2.2.T,r14.1⟩:G.Server)))))))) else 
  (let e15:=(idxI a1 x3.2.1).getD default
  ((x3.1++[e15]),x3.2.2)))))
  (y5.1,(iadd .i64 x3.2.1 1),y5.2))) ((a1.length:Int):Int).toNat ([],0,a0)
  (x3.1,x3.2.2))
  (y1.1,y1.2))
theorem spec_l22Out_d {a0:G.Server} {a1:List G.Out} {r:(List G.Out) × G.Server}:spec_l22Out.raw a0 a1=some r→r=tl22Out a0 a1:=Le.out (by unfold spec_l22Out.raw tl22Out;exact .j (fun _=> .it (fun _ _=> .j (fun _=> .b (fun _=>getD_d) (.b (fun _=>getD_d) (.j0 (.c (.b (fun _=>getD_d) (.b (fun _=>getD_d) (.b (fun _=>spec_SizeOf_d) (.b (fun _=>spec_Spend_d) (.c .rfl (.b (fun _=>getD_d) (.g .rfl))))))) (.b (fun _=>getD_d) (.g .rfl)))))) .rfl) .rfl rfl (fun _=>rfl)) .rfl)
def tServerHear (a0:G.Server) (a1:Int) (a2:G.Addr) (a3:List UInt8):G.Server × (List G.Out) × (List G.Note):=(let y2:Bool:= 
  (let r4:=serverOk a0
  ((!r4)||((!(inR a1 0 1000000))||(!(addrOk a2)))))
  (bif y2 then (a0,[],[]) else 
  (let r5:=tGain a0.Cr a2 (a3.length:Int)
  (let r6:=tGetFrame a3
  (bif !r6.2 then ((⟨a0.Psks,a0.J,a0.D,a0.T,r5⟩:G.Server),[],[]) else (bif r6.1.Kind==1 then 
  (let y9:Bool:=((decide (r6.1.Id>(a0.Psks.length:Int)))|| 
  (let r11:=tMayAsk (⟨a0.Psks,a0.J,a0.D,a0.T,r5⟩:G.Server) a2 45
  ((!r11)||(a0.D.N==10000))))
  (bif y9 then ((⟨a0.Psks,a0.J,a0.D,a0.T,r5⟩:G.Server),[],[]) else 
  (let r12:=rollD a0.D
  (let r13:=tMint a0.J a2 r6.1.Id r6.1.Cn r12.2 a1
  (let r14:=noteRolled r12.2
  (let r15:=tMintBody a2 r6.1.Id r6.1.Cn r12.2 a1
  (let r16:=tMade a0.J.Secret r15
  (let x17:List G.Out:=[(⟨a2,(⟨2,0,r6.1.Cn,r12.2,a1,r13,[],0,0,[],[]⟩:G.Frame)⟩:G.Out)]
  (let r65:=tl22Out (⟨a0.Psks,a0.J,r12.1,a0.T,r5⟩:G.Server) (x17)
  (r65.2,r65.1,([r14,r16]))))))))))) else (bif r6.1.Kind==3 then 
  (let y20:Bool:= 
  (let r22:=tJudge a0.J a1 a2 r6.1
  ((r22 !=0)||((decide (r6.1.Id>(a0.Psks.length:Int)))|| 
  (let e23:=(idxI a0.Psks (isub .i64 r6.1.Id 1)).getD default
  (let r24:=tProofOk e23 r6.1
  (!r24))))))
  (bif y20 then ((⟨a0.Psks,a0.J,a0.D,a0.T,r5⟩:G.Server),[],[]) else 
  (let r25:=findSn a0.T r6.1.Sn
  (bif decide (r25<0) then 
  (let e28:=(idxI a0.Psks (isub .i64 r6.1.Id 1)).getD default
  (let r29:=tSessNew e28 a1 a2 r6.1
  (let r30:=tAddSess a0.T r29
  (bif r30.2 !=0 then ((⟨a0.Psks,a0.J,a0.D,a0.T,r5⟩:G.Server),[],[]) else 
  (let r31:=tMintBody a2 r6.1.Id r6.1.Cn r6.1.Sn r6.1.Tick
  (let r32:=tTook a0.J.Secret r6.1.Sn r31
  (let e33:=(idxI a0.Psks (isub .i64 r6.1.Id 1)).getD default
  (let r34:=tFinishKey e33
  (let r35:=tProofBody r6.1.Id r6.1.Cn r6.1.Sn r6.1.Tick r6.1.Cookie
  (let r36:=tTook r34 r6.1.Sn r35
  (let x37:List G.Note:=[(⟨4,r6.1.Id,0,r6.1.Cn,r6.1.Sn,0,0,[],r29.C.Cur.Key,a2,a1⟩:G.Note)]
  (let e38:=((⟨a0.Psks,a0.J,a0.D,r30.1,r5⟩:G.Server).T.L[(isub .i64 (r30.1.L.length:Int) 1).toNat]?).getD default
  (let y39:Bool:=((!e38.Dead)&&((e38.Id==r6.1.Id)&& 
  (let r41:=(e38.Cn==r6.1.Cn)
 r41)))
  (let y42:(List G.Out) × (List G.Note) × G.Server:=(bif y39 then 
  (let r44:=tSessAck e38
  (let e45:=((⟨a0.Psks,a0.J,a0.D,r30.1,r5⟩:G.Server).T.L[(isub .i64 (r30.1.L.length:Int) 1).toNat]?).getD default
  ((r44.2.1),(((([r32])++[r36])++x37)++r44.2.2),(⟨(⟨a0.Psks,a0.J,a0.D,r30.1,r5⟩:G.Server).Psks,(⟨a0.Psks,a0.J,a0.D,r30.1,r5⟩:G.Server).J,(⟨a0.Psks,a0.J,a0.D,r30.1,r5⟩:G.Server).D,(⟨(⟨a0.Psks,a0.J,a0.D,r30.1,r5⟩:G.Server).T.Cap,List.set (⟨a0.Psks,a0.J,a0.D,r30.1,r5⟩:G.Server).T.L (isub .i64 (r30.1.L.length:Int) 1).toNat r44.1⟩:G.Tab),(⟨a0.Psks,a0.J,a0.D,r30.1,r5⟩:G.Server).Cr⟩:G.Server)))) else ([],((([r32])++[r36])++x37),(⟨a0.Psks,a0.J,a0.D,r30.1,r5⟩:G.Server)))
  (let r65:=tl22Out y42.2.2 y42.1
  (r65.2,r65.1,y42.2.1)))))))))))))))) else 
  (let e38:=((⟨a0.Psks,a0.J,a0.D,a0.T,r5⟩:G.Server).T.L[r25.toNat]?).getD default
  (let y39:Bool:=((!e38.Dead)&&((e38.Id==r6.1.Id)&& 
  (let r41:=(e38.Cn==r6.1.Cn)
 r41)))
  (let y42:(List G.Out) × (List G.Note) × G.Server:=(bif y39 then 
  (let r44:=tSessAck e38
  (let e45:=((⟨a0.Psks,a0.J,a0.D,a0.T,r5⟩:G.Server).T.L[r25.toNat]?).getD default
  ((r44.2.1),(([])++r44.2.2),(⟨(⟨a0.Psks,a0.J,a0.D,a0.T,r5⟩:G.Server).Psks,(⟨a0.Psks,a0.J,a0.D,a0.T,r5⟩:G.Server).J,(⟨a0.Psks,a0.J,a0.D,a0.T,r5⟩:G.Server).D,(⟨(⟨a0.Psks,a0.J,a0.D,a0.T,r5⟩:G.Server).T.Cap,List.set (⟨a0.Psks,a0.J,a0.D,a0.T,r5⟩:G.Server).T.L r25.toNat r44.1⟩:G.Tab),(⟨a0.Psks,a0.J,a0.D,a0.T,r5⟩:G.Server).Cr⟩:G.Server)))) else ([],([]),(⟨a0.Psks,a0.J,a0.D,a0.T,r5⟩:G.Server)))
  (let r65:=tl22Out y42.2.2 y42.1
  (r65.2,r65.1,y42.2.1))))))))) else (bif isSealed r6.1.Kind then 
  (let r48:=findSn a0.T r6.1.Sn
  (let y49:Bool:=((decide (r48<0))|| 
  (let e51:=(idxI a0.T.L r48).getD default
 e51.Dead))
  (bif y49 then ((⟨a0.Psks,a0.J,a0.D,a0.T,r5⟩:G.Server),[],[]) else 
  (let r52:=rollD a0.D
  (let r53:=tMayAsk (⟨a0.Psks,a0.J,a0.D,a0.T,r5⟩:G.Server) a2 51
  (let y54:(List UInt8):=(bif !r53 then [] else r52.2)
  (let e56:=(idxI a0.T.L r48).getD default
  (let r57:=tSessHear e56 a1 a2 r6.1 y54
  (let e58:=(a0.T.L[r48.toNat]?).getD default
  (let y59:(List G.Note) × G.Server:=(bif r57.2.2.2 then 
  (let r61:=noteRolled y54
  (([r61]),(⟨a0.Psks,a0.J,r52.1,(⟨a0.T.Cap,List.set a0.T.L r48.toNat r57.1⟩:G.Tab),r5⟩:G.Server))) else ([],(⟨a0.Psks,a0.J,a0.D,(⟨a0.T.Cap,List.set a0.T.L r48.toNat r57.1⟩:G.Tab),r5⟩:G.Server)))
  (let y62:(List G.Note):=(bif r57.2.2.2 then 
  (let x64:List G.Note:=[(⟨7,0,0,[],r6.1.Sn,0,0,y54,[],a2,a1⟩:G.Note)]
  ((y59.1++r57.2.2.1)++x64)) else (y59.1++r57.2.2.1))
  (let r65:=tl22Out y59.2 (r57.2.1)
  (r65.2,r65.1,y62))))))))))))) else 
  (let r65:=tl22Out (⟨a0.Psks,a0.J,a0.D,a0.T,r5⟩:G.Server) ([])
  (r65.2,r65.1,([])))))))))))
theorem spec_ServerHear_d {a0:G.Server} {a1:Int} {a2:G.Addr} {a3:List UInt8} {r:G.Server × (List G.Out) × (List G.Note)}:spec_ServerHear.raw a0 a1 a2 a3=some r→r=tServerHear a0 a1 a2 a3:=Le.out (by unfold spec_ServerHear.raw tServerHear;exact .b (fun _=>pt_d) (.j (fun _=> .b (fun _=>pt_d) (.or (.or .rfl))) (.cs .rfl (.b (fun _=>spec_Gain_d) (.b (fun _=>spec_GetFrame_d) (.cs .rfl (.j0 (.cs (.j (fun _=> .or (.b (fun _=>spec_MayAsk_d) (.or .rfl))) (.cs .rfl (.b (fun _=>pt_d) (.g (.b (fun _=>spec_Mint_d) (.b (fun _=>pt_d) (.b (fun _=>spec_MintBody_d) (.b (fun _=>spec_Made_d) (.g (.g (.b (fun _=>spec_l22Out_d) .rfl))))))))))) (.j0 (.cs (.j (fun _=> .b (fun _=>spec_Judge_d) (.or (.or (.b (fun _=>getD_d) (.b (fun _=>spec_ProofOk_d) .rfl))))) (.cs .rfl (.b (fun _=>pt_d) (.j0 (.cs (.b (fun _=>getD_d) (.b (fun _=>spec_SessNew_d) (.b (fun _=>spec_AddSess_d) (.cs .rfl (.b (fun _=>spec_MintBody_d) (.b (fun _=>spec_Took_d) (.g (.b (fun _=>getD_d) (.b (fun _=>spec_FinishKey_d) (.b (fun _=>spec_ProofBody_d) (.b (fun _=>spec_Took_d) (.g (.g (.g (.g (.g (.g (.b (fun _=>getD_d) (.j (fun _=> .and (.and (.b (fun _=>pt_d) .rfl))) (.j (fun _=> .c (.b (fun _=>spec_SessAck_d) (.g (.b (fun _=>getD_d) (.g (.g .rfl))))) .rfl) (.b (fun _=>spec_l22Out_d) .rfl))))))))))))))))))))) (.g (.b (fun _=>getD_d) (.j (fun _=> .and (.and (.b (fun _=>pt_d) .rfl))) (.j (fun _=> .c (.b (fun _=>spec_SessAck_d) (.g (.b (fun _=>getD_d) (.g (.g .rfl))))) .rfl) (.b (fun _=>spec_l22Out_d) .rfl)))))))))) (.j0 (.cs (.b (fun _=>pt_d) (.j (fun _=> .or (.b (fun _=>getD_d) .rfl)) (.cs .rfl (.b (fun _=>pt_d) (.b (fun _=>spec_MayAsk_d) (.j (fun _=> .c .rfl .rfl) (.b (fun _=>getD_d) (.b (fun _=>spec_SessHear_d) (.g (.b (fun _=>getD_d) (.g (.j (fun _=> .c (.b (fun _=>pt_d) (.g .rfl)) .rfl) (.g (.j (fun _=> .c (.g (.g (.g .rfl))) .rfl) (.b (fun _=>spec_l22Out_d) .rfl))))))))))))))) (.b (fun _=>spec_l22Out_d) .rfl)))))))))))))
def tFinishOf (a0:List UInt8) (a1:Int) (a2:G.Frame):G.Frame × Bool:=(let y1:Bool:=((!(frameOk a2))||(a2.Kind !=2))
  (bif y1 then ((⟨0,0,[],[],0,[],[],0,0,[],[]⟩:G.Frame),false) else 
  (let r3:=tProof a0 a1 a2.Cn a2.Sn a2.Tick a2.Cookie
  (bif (r3.length:Int)==0 then ((⟨0,0,[],[],0,[],[],0,0,[],[]⟩:G.Frame),false) else ((⟨3,a1,a2.Cn,a2.Sn,a2.Tick,a2.Cookie,r3,a2.Epoch,a2.Seq,a2.Body,a2.Tag⟩:G.Frame),true)))))
theorem spec_FinishOf_d {a0:List UInt8} {a1:Int} {a2:G.Frame} {r:G.Frame × Bool}:spec_FinishOf.raw a0 a1 a2=some r→r=tFinishOf a0 a1 a2:=Le.out (by unfold spec_FinishOf.raw tFinishOf;exact .j (fun _=> .or .rfl) (.cs .rfl (.b (fun _=>spec_Proof_d) (.cs .rfl (.b (fun _=>pt_d) .rfl)))))
def tClientHear (a0:G.Client) (a1:Int) (a2:G.Frame):G.Client × (List G.Frame) × (List G.Note):=(let y2:Bool:= 
  (let r4:=clientOk a0
  ((!r4)||((!(inR a1 0 1000000))||(!(frameOk a2)))))
  (bif y2 then (a0,[],[]) else 
  (let y5:Bool:=((a2.Kind==2)&&((a0.St==1)&& 
  (let r7:=(a2.Cn==a0.Cn)
 r7)))
  (bif y5 then 
  (let r8:=tFinishOf a0.Psk a0.Id a2
  (let r9:=tEpochKey a0.Psk a0.Cn a2.Sn 0
  (let r10:=tChanNew 0 a2.Sn r9
  (let r11:=tTimerSet a1
  (let x12:List G.Note:=[(⟨2,a0.Id,0,a0.Cn,a2.Sn,0,0,[],[],(⟨0,0⟩:G.Addr),a1⟩:G.Note)]
  (let r13:=tFinishKey a0.Psk
  (let r14:=tProofBody r8.1.Id r8.1.Cn r8.1.Sn r8.1.Tick r8.1.Cookie
  (let r15:=tMade r13 r14
  ((⟨a0.Id,a0.Psk,a0.At,2,a0.Cn,r8.1,r10,r11,a0.R,a0.Last⟩:G.Client),[r8.1],(x12)++[r15]))))))))) else 
  (let y17:Bool:=((!(isSealed a2.Kind))||(decide (a0.St<2)))
  (bif y17 then (a0,[],[]) else 
  (let r19:=tChanOpen a0.C a1 a2
  (bif r19.2.2 !=0 then (a0,[],[]) else 
  (let r20:=tKeyFor a0.C a2.Epoch
  (let r21:=tTagInput 1 a2
  (let r22:=tTook r20.1 a2.Sn r21
  (let y23:(List G.Note) × G.Client:=(bif a0.St==2 then 
  (let x25:List G.Note:=[(⟨3,a0.Id,0,a0.Cn,a2.Sn,0,0,[],a0.C.Cur.Key,(⟨0,0⟩:G.Addr),0⟩:G.Note)]
  ((([r22])++x25),(⟨a0.Id,a0.Psk,a0.At,3,a0.Cn,(⟨0,0,[],[],0,[],[],0,0,[],[]⟩:G.Frame),r19.1,(⟨false,0,0,0⟩:G.Timer),a0.R,a1⟩:G.Client))) else (([r22]),(⟨a0.Id,a0.Psk,a0.At,a0.St,a0.Cn,a0.Fin,r19.1,a0.T,a0.R,a1⟩:G.Client)))
  (let y26:(List G.Note) × G.Client:=(bif r19.1.Cur.N !=a0.C.Cur.N then 
  (let x28:List G.Note:=[(⟨10,0,0,[],a2.Sn,r19.1.Cur.N,0,[],r19.1.Cur.Key,(⟨0,0⟩:G.Addr),0⟩:G.Note)]
  ((y23.1++x28),(⟨y23.2.Id,y23.2.Psk,y23.2.At,y23.2.St,y23.2.Cn,y23.2.Fin,y23.2.C,y23.2.T,(⟨false,0,0,0⟩:G.Timer),y23.2.Last⟩:G.Client))) else (y23.1,y23.2))
  (let y29:(List G.Note):=(bif a2.Kind==4 then 
  (let x31:List G.Note:=[(⟨6,0,1,[],a2.Sn,a2.Epoch,a2.Seq,r19.2.1,[],(⟨0,0⟩:G.Addr),a1⟩:G.Note)]
  (y26.1++x31)) else y26.1)
  (let y32:(List G.Frame) × (List G.Note) × G.Client:=(bif a2.Kind==5 then 
  (let r34:=tChanSeal r19.1 6 r19.2.1
  (let y35:(List G.Frame) × (List G.Note) × G.Client:=(bif r34.2.2==0 then 
  (let r37:=tl19Made r34.1 r34.2.1
  (let x38:List G.Note:=[(⟨8,0,0,[],a2.Sn,r34.2.1.Epoch,0,r19.2.1,[],(⟨0,0⟩:G.Addr),0⟩:G.Note)]
  (([r34.2.1]),((y29++[r37])++x38),(⟨y26.2.Id,y26.2.Psk,y26.2.At,y26.2.St,y26.2.Cn,y26.2.Fin,r34.1,y26.2.T,y26.2.R,y26.2.Last⟩:G.Client)))) else ([],y29,y26.2))
  (y35.1,y35.2.1,y35.2.2))) else ([],y29,y26.2))
  (y32.2.2,y32.1,y32.2.1))))))))))))))))
theorem spec_ClientHear_d {a0:G.Client} {a1:Int} {a2:G.Frame} {r:G.Client × (List G.Frame) × (List G.Note)}:spec_ClientHear.raw a0 a1 a2=some r→r=tClientHear a0 a1 a2:=Le.out (by unfold spec_ClientHear.raw tClientHear;exact .b (fun _=>pt_d) (.j (fun _=> .b (fun _=>pt_d) (.or (.or .rfl))) (.cs .rfl (.j (fun _=> .and (.and (.b (fun _=>pt_d) .rfl))) (.cs (.b (fun _=>spec_FinishOf_d) (.b (fun _=>spec_EpochKey_d) (.b (fun _=>spec_ChanNew_d) (.b (fun _=>spec_TimerSet_d) (.g (.g (.g (.b (fun _=>spec_FinishKey_d) (.b (fun _=>spec_ProofBody_d) (.b (fun _=>spec_Made_d) (.g (.b (fun _=>pt_d) (.g .rfl))))))))))))) (.j (fun _=> .or .rfl) (.cs .rfl (.b (fun _=>spec_ChanOpen_d) (.cs .rfl (.b (fun _=>spec_KeyFor_d) (.b (fun _=>spec_TagInput_d) (.b (fun _=>spec_Took_d) (.g (.j (fun _=> .c (.g (.g (.g (.g .rfl)))) .rfl) (.j (fun _=> .c (.g (.g (.g .rfl))) .rfl) (.j (fun _=> .c (.g (.g (.g .rfl))) .rfl) (.j (fun _=> .c (.b (fun _=>spec_ChanSeal_d) (.j (fun _=> .c (.g (.b (fun _=>spec_l19Made_d) (.g (.g (.g (.g .rfl)))))) .rfl) .rfl)) .rfl) .rfl)))))))))))))))))
def tl25Post (a0:G.World) (a1:Int) (a2:G.Addr) (a3:List UInt8):(List G.Wire) × G.World:=(bif a1==0 then 
  (let r1:=tServerHear a0.S a0.Now a2 a3
  (let r2:=tl25Outs r1.2.1
  (r2,(⟨a0.Now,a0.Clients,r1.1,a0.D,a0.Seen,a0.Known,a0.Notes++r1.2.2⟩:G.World)))) else 
  (let r3:=tGetFrame a3
  (bif !r3.2 then ([],a0) else 
  (let e4:=(a0.Clients[(isub .i64 a1 1).toNat]?).getD default
  (let r5:=tClientHear e4 a0.Now r3.1
  (let e6:=(a0.Clients[(isub .i64 a1 1).toNat]?).getD default
  (let r7:=tl25Sent r5.1 r5.2.1
  (r7,(⟨a0.Now,List.set a0.Clients ((isub .i64 a1 1).toNat) r5.1,a0.S,a0.D,a0.Seen,a0.Known,a0.Notes++r5.2.2⟩:G.World)))))))))
theorem spec_l25Post_d {a0:G.World} {a1:Int} {a2:G.Addr} {a3:List UInt8} {r:(List G.Wire) × G.World}:spec_l25Post.raw a0 a1 a2 a3=some r→r=tl25Post a0 a1 a2 a3:=Le.out (by unfold spec_l25Post.raw tl25Post;exact .cs (.b (fun _=>spec_ServerHear_d) (.g (.b (fun _=>spec_l25Outs_d) .rfl))) (.b (fun _=>spec_GetFrame_d) (.cs .rfl (.g (.b (fun _=>getD_d) (.b (fun _=>spec_ClientHear_d) (.g (.b (fun _=>getD_d) (.g (.b (fun _=>spec_l25Sent_d) .rfl))))))))))
def tl26Post (a0:G.World) (a1:Int) (a2:G.Addr) (a3:List UInt8):G.World:=(let r1:=tl25Post a0 a1 a2 a3
  (let r2:=tl26See r1.2 r1.1 []
 r2))
theorem spec_l26Post_d {a0:G.World} {a1:Int} {a2:G.Addr} {a3:List UInt8} {r:G.World}:spec_l26Post.raw a0 a1 a2 a3=some r→r=tl26Post a0 a1 a2 a3:=Le.out (by unfold spec_l26Post.raw tl26Post;exact .b (fun _=>spec_l25Post_d) (.b (fun _=>spec_l26See_d) .rfl))
def tBoot (a0:G.Server):G.Server × (List G.Note):=(let y2:Bool:= 
  (let r4:=serverOk a0
  ((!r4)||(a0.D.N==10000)))
  (bif y2 then (a0,[]) else 
  (let r5:=rollD a0.D
  (let r6:G.Jar:=jarNew r5.2
  (let r7:G.Tab:=tabNew a0.T.Cap
  (let r8:=noteRolled r5.2
  (let x9:List G.Note:=[r8,(⟨12,0,0,[],[],0,0,[],r6.Secret,(⟨0,0⟩:G.Addr),0⟩:G.Note)]
  ((⟨a0.Psks,r6,r5.1,r7,[]⟩:G.Server),x9))))))))
theorem spec_Boot_d {a0:G.Server} {r:G.Server × (List G.Note)}:spec_Boot.raw a0=some r→r=tBoot a0:=Le.out (by unfold spec_Boot.raw tBoot;exact .b (fun _=>pt_d) (.j (fun _=> .b (fun _=>pt_d) (.or .rfl)) (.cs .rfl (.b (fun _=>pt_d) (.b (fun _=>pt_d) (.g .rfl))))))
def tHang (a0:G.Client):G.Client × (List G.Note):=(let r1:=clientOk a0
  (bif !r1 then (a0,[]) else (bif a0.St==3 then 
  (let r3:=tl19Idle a0
  (let x4:List G.Note:=[(⟨11,a0.Id,0,[],a0.C.Sn,0,0,[],[],(⟨0,0⟩:G.Addr),0⟩:G.Note)]
  (r3,x4))) else 
  (let r5:=tl19Idle a0
  (r5,[])))))
theorem spec_Hang_d {a0:G.Client} {r:G.Client × (List G.Note)}:spec_Hang.raw a0=some r→r=tHang a0:=Le.out (by unfold spec_Hang.raw tHang;exact .b (fun _=>pt_d) (.cs (.b (fun _=>pt_d) .rfl) (.cs (.b (fun _=>spec_l19Idle_d) (.g .rfl)) (.b (fun _=>spec_l19Idle_d) .rfl))))
def tServerClose (a0:G.Server) (a1:Int):G.Server × (List G.Note) × Int:=(let r2:=serverOk a0
  (bif !r2 then (a0,[],1) else 
  (let y3:Bool:= 
  (let r5:Bool:=inR a1 0 (isub .i64 (a0.T.L.length:Int) 1)
  ((!r5)|| 
  (let e6:=(idxI a0.T.L a1).getD default
 e6.Dead)))
  (bif y3 then (a0,[],8) else 
  (let e7:=(idxI a0.T.L a1).getD default
  (let r8:=tBury e7
  (let e9:=(a0.T.L[a1.toNat]?).getD default
  (let e10:=(idxI a0.T.L a1).getD default
  (let r11:=tl22End e10
  ((⟨a0.Psks,a0.J,a0.D,(⟨a0.T.Cap,List.set a0.T.L a1.toNat r8⟩:G.Tab),a0.Cr⟩:G.Server),[r11],0))))))))))
theorem spec_ServerClose_d {a0:G.Server} {a1:Int} {r:G.Server × (List G.Note) × Int}:spec_ServerClose.raw a0 a1=some r→r=tServerClose a0 a1:=Le.out (by unfold spec_ServerClose.raw tServerClose;exact .b (fun _=>pt_d) (.b (fun _=>pt_d) (.cs .rfl (.j (fun _=> .or (.b (fun _=>getD_d) .rfl)) (.cs .rfl (.b (fun _=>getD_d) (.b (fun _=>spec_Bury_d) (.g (.b (fun _=>getD_d) (.b (fun _=>getD_d) (.b (fun _=>spec_l22End_d) .rfl)))))))))))
def tKeysOf (a0:G.Chan):List (List UInt8):=(let r1:=chanOk a0
  (bif !r1 then [] else 
  (let y2:(List (List UInt8)):=(bif a0.HasOld then ([[]++a0.Old.Key]) else [])
  (let y4:(List (List UInt8)):=(bif decide ((a0.Next.length:Int)>0) then ((y2++[[]++a0.Cur.Key])++[[]++a0.Next]) else (y2++[[]++a0.Cur.Key]))
 y4))))
theorem spec_KeysOf_d {a0:G.Chan} {r:List (List UInt8)}:spec_KeysOf.raw a0=some r→r=tKeysOf a0:=Le.out (by unfold spec_KeysOf.raw tKeysOf;exact .b (fun _=>pt_d) (.cs .rfl (.j (fun _=> .c (.g (.g .rfl)) .rfl) (.g (.g (.j (fun _=> .c (.g (.g .rfl)) .rfl) .rfl))))))
def tl26Show (a0:G.World) (a1:G.Chan):Bool × G.World:=(let r1:=tKeysOf a1
  (let x2:Int:=iadd .i64 (a0.Known.length:Int) (r1.length:Int)
  (bif decide (x2>12) then (false,a0) else 
  (let x3:List G.Note:=[(⟨13,0,0,[],a1.Sn,0,0,[],[],(⟨0,0⟩:G.Addr),0⟩:G.Note)]
  (true,(⟨a0.Now,a0.Clients,a0.S,a0.D,a0.Seen,a0.Known++r1,a0.Notes++x3⟩:G.World))))))
theorem spec_l26Show_d {a0:G.World} {a1:G.Chan} {r:Bool × G.World}:spec_l26Show.raw a0 a1=some r→r=tl26Show a0 a1:=Le.out (by unfold spec_l26Show.raw tl26Show;exact .b (fun _=>spec_KeysOf_d) (.cs .rfl (.g (.g (.g .rfl)))))
def tWind (a0:G.Dice) (a1:Int):G.Dice:=(let y2:Bool:=(((diceOk a0))&&(inR a1 0 10000))
  (let y4:G.Dice:=(bif y2 then (⟨a0.Seed,a1⟩:G.Dice) else a0)
 y4))
theorem spec_Wind_d {a0:G.Dice} {a1:Int} {r:G.Dice}:spec_Wind.raw a0 a1=some r→r=tWind a0 a1:=Le.out (by unfold spec_Wind.raw tWind;exact .b (fun _=>pt_d) (.j (fun _=> .and .rfl) (.j (fun _=> .c .rfl .rfl) .rfl)))
def tl26Dok4 (a0:G.World) (a1:G.Event) (y3:G.Wire):Bool × G.World:=(bif a1.Kind==1 then 
 (let r8:=rollD a0.D
 (let e9:=(a0.Clients[(irem .i64 a1.I 2).toNat]?).getD default
 (let r10:=tDial e9 a0.Now r8.2
 (bif r10.2.2.2 !=0 then (false,a0) else 
 (let r11:=noteRolled r8.2
 (let r12:=tl26Client (⟨a0.Now,a0.Clients,a0.S,r8.1,a0.Seen,a0.Known,a0.Notes++[r11]⟩:G.World) (irem .i64 a1.I 2) r10.1 r10.2.1 r10.2.2.1
 (true,r12))))))) else (bif a1.Kind==2 then 
 (let e15:=(a0.Clients[(irem .i64 a1.I 2).toNat]?).getD default
 (let r16:=tClientSend e15 a0.Now a1.B
 (bif r16.2.2.2 !=0 then (false,a0) else 
 (let r17:=tl26Client a0 (irem .i64 a1.I 2) r16.1 r16.2.1 r16.2.2.1
 (true,r17))))) else (bif a1.Kind==3 then 
 (let r20:=tServerSend a0.S a0.Now a1.I a1.B
 (bif r20.2.2.2 !=0 then (false,a0) else 
 (let r21:=tl25Outs r20.2.1
 (let r22:=tl26See (⟨a0.Now,a0.Clients,r20.1,a0.D,a0.Seen,a0.Known,a0.Notes⟩:G.World) r21 r20.2.2.1
 (true,r22))))) else (bif a1.Kind==4 then (bif a0.Now==1000000 then (false,a0) else 
 (let r25:=tl25Tick a0
 (let r26:=tl26See r25.2 r25.1 []
 (true,r26)))) else (bif a1.Kind==5 then 
 (let e29:=(a0.Clients[(irem .i64 a1.I 2).toNat]?).getD default
 (let r30:G.Addr:=near (iadd .i64 1 (irem .i64 a1.N 30))
 (let r31:=tRoam e29 r30
 (let e32:=(a0.Clients[(irem .i64 a1.I 2).toNat]?).getD default
 (true,(⟨a0.Now,List.set a0.Clients ((irem .i64 a1.I 2).toNat) r31,a0.S,a0.D,a0.Seen,a0.Known,a0.Notes⟩:G.World)))))) else (bif a1.Kind==6 then 
 (let e35:=(a0.Clients[(irem .i64 a1.I 2).toNat]?).getD default
 (let r36:=tClientRekey e35 a0.Now
 (bif r36.2.2.2 !=0 then (false,a0) else 
 (let r37:=tl26Client a0 (irem .i64 a1.I 2) r36.1 r36.2.1 r36.2.2.1
 (true,r37))))) else (bif a1.Kind==7 then 
 (let r40:=partyAt a0 y3.To
 (bif decide (r40<0) then (false,a0) else 
 (let r41:=tl26Post a0 r40 y3.From y3.B
 (true,r41)))) else (bif a1.Kind==8 then 
 (let r44:G.Addr:=near (irem .i64 a1.N 256)
 (let r45:=tl26Post a0 0 r44 y3.B
 (true,r45))) else (bif a1.Kind==9 then 
 (let r48:=tl26Post a0 (irem .i64 a1.J 3) y3.From y3.B
 (true,r48)) else (bif a1.Kind==10 then 
 (let r51:=partyAt a0 y3.To
 (let y52:Bool:=((decide (r51<0))||((y3.B.length:Int)==0))
 (bif y52 then (false,a0) else 
 (let x54:Int:=irem .i64 a1.N ((y3.B).length:Int)
 (let e55:=((y3.B)[x54.toNat]?).getD default
 (let x56:Int:=IntKind.wrap .u8 (iadd .i64 1 (irem .i64 a1.J 255))
 (let e57:=((y3.B)[x54.toNat]?).getD default
 (let l58:List UInt8:=List.set (y3.B) x54.toNat (UInt8.ofNat (ixor .u8 ((e55.toNat:Nat):Int) x56:Int).toNat)
 (let r59:=tl26Post a0 r51 y3.From l58
 (true,r59)))))))))) else (bif a1.Kind==11 then 
 (let r62:=(spec_Cook.raw a1.Ops a0.Seen a0.Known).getD default
 (bif !r62.2 then (false,a0) else 
 (let r63:G.Addr:=near (irem .i64 a1.N 256)
 (let r64:=tl26Post a0 (irem .i64 a1.J 3) r63 r62.1
 (true,r64))))) else (bif a1.Kind==12 then 
 (let r67:=tBoot a0.S
 (bif (r67.2.length:Int)==0 then (false,a0) else 
 (let r68:=tl26See (⟨a0.Now,a0.Clients,r67.1,a0.D,a0.Seen,a0.Known,a0.Notes⟩:G.World) [] r67.2
 (true,r68)))) else (bif a1.Kind==13 then 
 (let e71:=(a0.Clients[(irem .i64 a1.I 2).toNat]?).getD default
 (bif e71.St==0 then (false,a0) else 
 (let e72:=(a0.Clients[(irem .i64 a1.I 2).toNat]?).getD default
 (let r73:=tHang e72
 (let r74:=tl26Client a0 (irem .i64 a1.I 2) r73.1 [] r73.2
 (true,r74)))))) else (bif a1.Kind==14 then 
 (let r77:=tServerClose a0.S a1.I
 (bif r77.2.2 !=0 then (false,a0) else 
 (let r78:=tl26See (⟨a0.Now,a0.Clients,r77.1,a0.D,a0.Seen,a0.Known,a0.Notes⟩:G.World) [] r77.2.1
 (true,r78)))) else (bif a1.Kind==15 then 
 (let y79:Bool × G.World:= 
 (let e81:=(a0.Clients[(irem .i64 a1.I 2).toNat]?).getD default
 (bif e81.St==3 then 
 (let e82:=(a0.Clients[(irem .i64 a1.I 2).toNat]?).getD default
 (let r83:=tl26Show a0 e82.C
 (r83.1,r83.2))) else (false,a0)))
 (y79.1,y79.2)) else (bif a1.Kind==16 then 
 (let y84:Bool × G.World:=(bif decide (a1.I<(a0.S.T.L.length:Int)) then 
 (let e86:=(idxI a0.S.T.L a1.I).getD default
 (bif !e86.Dead then 
 (let e87:=(idxI a0.S.T.L a1.I).getD default
 (let r88:=tl26Show a0 e87.C
 (r88.1,r88.2))) else (false,a0))) else (false,a0))
 (y84.1,y84.2)) else 
 (let y89:G.World:=(bif a1.Kind==17 then (bif (irem .i64 a1.J 2)==0 then 
 (let r93:=tWind a0.D a1.N
 (⟨a0.Now,a0.Clients,a0.S,r93,a0.Seen,a0.Known,a0.Notes⟩:G.World)) else 
 (let r94:=tWind a0.S.D a1.N
 (⟨a0.Now,a0.Clients,(⟨a0.S.Psks,a0.S.J,r94,a0.S.T,a0.S.Cr⟩:G.Server),a0.D,a0.Seen,a0.Known,a0.Notes⟩:G.World))) else a0)
 (true,y89))))))))))))))))))
def tl26Do (a0:G.World) (a1:G.Event):Bool × G.World:=(let y1:Bool:=((decide (a1.Kind≥7))&&(decide (a1.Kind≤10)))
  (bif y1 then (bif (a0.Seen.length:Int)==0 then (false,a0) else 
  (let e5:=(a0.Seen[(irem .i64 a1.I (a0.Seen.length:Int)).toNat]?).getD default
 tl26Dok4 a0 a1 e5)) else tl26Dok4 a0 a1 (⟨(⟨0,0⟩:G.Addr),(⟨0,0⟩:G.Addr),[]⟩:G.Wire)))
theorem spec_l26Do_d {a0:G.World} {a1:G.Event} {r:Bool × G.World}:spec_l26Do.raw a0 a1=some r→r=tl26Do a0 a1:=Le.out (by unfold spec_l26Do.raw tl26Do;exact .j (fun _=> .and .rfl) (.jd (G:=tl26Dok4 a0 a1) (fun _=> .j0 (.cs (.b (fun _=>pt_d) (.g (.b (fun _=>getD_d) (.b (fun _=>spec_Dial_d) (.cs .rfl (.b (fun _=>pt_d) (.g (.b (fun _=>spec_l26Client_d) .rfl)))))))) (.j0 (.cs (.g (.b (fun _=>getD_d) (.b (fun _=>spec_ClientSend_d) (.cs .rfl (.b (fun _=>spec_l26Client_d) .rfl))))) (.j0 (.cs (.b (fun _=>spec_ServerSend_d) (.cs .rfl (.b (fun _=>spec_l25Outs_d) (.b (fun _=>spec_l26See_d) .rfl)))) (.j0 (.cs (.cs .rfl (.b (fun _=>spec_l25Tick_d) (.b (fun _=>spec_l26See_d) .rfl))) (.j0 (.cs (.g (.b (fun _=>getD_d) (.b (fun _=>spec_Roam_d) (.g (.b (fun _=>getD_d) .rfl))))) (.j0 (.cs (.g (.b (fun _=>getD_d) (.b (fun _=>spec_ClientRekey_d) (.cs .rfl (.b (fun _=>spec_l26Client_d) .rfl))))) (.j0 (.cs (.b (fun _=>pt_d) (.cs .rfl (.b (fun _=>spec_l26Post_d) .rfl))) (.j0 (.cs (.b (fun _=>spec_l26Post_d) .rfl) (.j0 (.cs (.b (fun _=>spec_l26Post_d) .rfl) (.j0 (.cs (.b (fun _=>pt_d) (.j (fun _=> .or .rfl) (.cs .rfl (.g (.g' (.g (.b (fun _=>getD_d) (.g (.b (fun _=>getD_d) (.b (fun _=>spec_l26Post_d) .rfl)))))))))) (.j0 (.cs (.b (fun _=>getD_d) (.cs .rfl (.b (fun _=>spec_l26Post_d) .rfl))) (.j0 (.cs (.b (fun _=>spec_Boot_d) (.cs .rfl (.b (fun _=>spec_l26See_d) .rfl))) (.j0 (.cs (.g (.b (fun _=>getD_d) (.cs .rfl (.g (.b (fun _=>getD_d) (.b (fun _=>spec_Hang_d) (.b (fun _=>spec_l26Client_d) .rfl))))))) (.j0 (.cs (.b (fun _=>spec_ServerClose_d) (.cs .rfl (.b (fun _=>spec_l26See_d) .rfl))) (.cs (.j (fun _=> .g (.b (fun _=>getD_d) (.c (.g (.b (fun _=>getD_d) (.b (fun _=>spec_l26Show_d) .rfl))) .rfl))) .rfl) (.cs (.j (fun _=> .c (.b (fun _=>getD_d) (.c (.b (fun _=>getD_d) (.b (fun _=>spec_l26Show_d) .rfl)) .rfl)) .rfl) .rfl) (.j (fun _=> .c (.j (fun _=> .c (.b (fun _=>spec_Wind_d) .rfl) (.b (fun _=>spec_Wind_d) .rfl)) .rfl) .rfl) .rfl))))))))))))))))))))))))))))))) (fun _ h1=> .cs (.cs .rfl (.g' (.g (.b (fun _=>getD_d) (h1 _))))) (h1 _))))
def tl26Events (a0:G.Cur) (a1:Int) (a2:Bool):G.World × (List G.Event) × G.World × G.Cur:=(let r1:=tl26New a0
  (let r3:=(spec_l1Below.raw r1.2 a1).getD default
  (let y4:(List G.Event) × G.Cur × Int × G.World:= 
  (let x6:=iter (fun (x6:(List G.Event) × Int × G.Cur × Int × G.World)=> 
  (let r8:=(spec_l26Pick.raw x6.2.2.1 x6.2.2.2.2 x6.2.2.2.1 a2).getD default
  (let y10:Bool × G.World:=(bif decide ((x6.2.2.2.2.Notes.length:Int)≤500) then (bif eventOk r8.1 then 
  (let r12:=tl26Do x6.2.2.2.2 r8.1
  (r12.1,r12.2)) else (false,x6.2.2.2.2)) else (false,x6.2.2.2.2))
  (let y13:G.World:=(bif y10.1 then y10.2 else x6.2.2.2.2)
  ((x6.1++[r8.1]),(isub .i64 x6.2.1 1),r8.2.1,r8.2.2,y13))))) (iadd .i64 4 r3.1:Int).toNat ([],(iadd .i64 4 r3.1),r3.2,0,r1.1)
  (x6.1,x6.2.2.1,x6.2.2.2.1,x6.2.2.2.2))
  (r1.1,y4.1,y4.2.2.2,y4.2.1))))
theorem spec_l26Events_d {a0:G.Cur} {a1:Int} {a2:Bool} {r:G.World × (List G.Event) × G.World × G.Cur}:spec_l26Events.raw a0 a1 a2=some r→r=tl26Events a0 a1 a2:=Le.out (by unfold spec_l26Events.raw tl26Events;exact .b (fun _=>spec_l26New_d) (.b (fun _=>pt_d) (.b (fun _=>getD_d) (.j (fun _=> .dn (fun _ _=> .b (fun _=>getD_d) (.g (.b (fun _=>pt_d) (.j (fun _=> .c (.c (.b (fun _=>spec_l26Do_d) .rfl) .rfl) .rfl) (.j (fun _=> .c .rfl .rfl) .rfl))))) .rfl (wrap_bd _).2 (fun _=>rfl)) .rfl))))
def tl26World (a0:G.Cur) (a1:Int):G.World × G.Cur:=(let r1:=(spec_l1Once.raw a0 3).getD default
  (let r2:=tl26Events r1.2 a1 (!r1.1)
  (r2.2.2.1,r2.2.2.2)))
theorem spec_l26World_d {a0:G.Cur} {a1:Int} {r:G.World × G.Cur}:spec_l26World.raw a0 a1=some r→r=tl26World a0 a1:=Le.out (by unfold spec_l26World.raw tl26World;exact .b (fun _=>getD_d) (.b (fun _=>spec_l26Events_d) .rfl))
end
end Go.D

/-
  What a world knows of its keys stands in its log.
-/
import Derived.Test.YtinolgjddfjojaaGreatM1
import Derived.Test.YtinolgjddfjojaaGreatN8
import Derived.Test.YtinolgjddfjojaaGreatN10
namespace Go.D
def EpI (ns:List G.Note) (sn:List UInt8) (e:G.Ep):Prop:=e.N=0∨∃ n ∈ ns,n.Kind=10∧n.Sn=sn∧n.Epoch=e.N∧n.Key=e.Key
def ChI (ns:List G.Note) (c:G.Chan):Prop:=EpI ns c.Sn c.Cur∧(c.HasOld=true→EpI ns c.Sn c.Old)
def NoteI (n:G.Note):Prop:=isKey n=true→0≤n.Epoch
def NI (ns:List G.Note):Prop:=∀ n ∈ ns,NoteI n
def TabI (ns:List G.Note) (t:G.Tab):Prop:=∀ s ∈ t.L,ChI ns s.C
def CliI (ns:List G.Note) (l:List G.Client):Prop:=∀ c ∈ l,ChI ns c.C
structure WI (w:G.World):Prop where
  ns:NI w.Notes
  cl:CliI w.Notes w.Clients
  tb:TabI w.Notes w.S.T
theorem EpI.mono {l m:List G.Note} {sn:List UInt8} {e:G.Ep} (h:EpI l sn e):EpI (l++m) sn e:=
  h.imp id fun ⟨n,h1,h2⟩=>⟨n,List.mem_append_left _ h1,h2⟩
theorem ChI.mono {l m:List G.Note} {c:G.Chan} (h:ChI l c):ChI (l++m) c:=⟨h.1.mono,fun k=>(h.2 k).mono⟩
theorem NI.app {l m:List G.Note} (h:NI l) (k:NI m):NI (l++m):=fun n hn=>(List.mem_append.1 hn).elim (h n) (k n)
theorem ni_nil:NI []:=fun _ h=>nomatch h
theorem ni_cons {a:G.Note} {l:List G.Note} (h:NoteI a) (k:NI l):NI (a :: l):=fun n hn=>by
  rcases List.mem_cons.1 hn with rfl | hn
  · exact h
  · exact k n hn
theorem ni_one {a:G.Note} (h:NoteI a):NI [a]:=ni_cons h ni_nil
theorem TabI.mono {l m:List G.Note} {t:G.Tab} (h:TabI l t):TabI (l++m) t:=fun s hs=>(h s hs).mono
theorem CliI.mono {l m:List G.Note} {t:List G.Client} (h:CliI l t):CliI (l++m) t:=fun s hs=>(h s hs).mono
theorem note_k {n:G.Note} (k:Int) (h:n.Kind=k) (h2:k≠3∧k≠4∧k≠10):NoteI n:=fun hk=>by
  simp only [isKey,isUp,Bool.or_eq_true,beq_iff_eq] at hk
  omega
theorem note_e {n:G.Note} (h:0≤n.Epoch):NoteI n:=fun _=>h
theorem chi_zero {l:List G.Note} {c:G.Chan} (h:c.Cur.N=0) (h2:c.HasOld=false):ChI l c:=⟨.inl h,fun k=>by rw [h2] at k;cases k⟩
structure ChE (c d:G.Chan):Prop where
  sn:d.Sn=c.Sn
  n:d.Cur.N=c.Cur.N
  key:d.Cur.Key=c.Cur.Key
  old:d.HasOld=true→c.HasOld=true∧d.Old.N=c.Old.N∧d.Old.Key=c.Old.Key
theorem ChE.refl (c:G.Chan):ChE c c:=⟨rfl,rfl,rfl,fun h=>⟨h,rfl,rfl⟩⟩
theorem ChE.trans {a b c:G.Chan} (h:ChE a b) (k:ChE b c):ChE a c:=⟨k.sn.trans h.sn,k.n.trans h.n,k.key.trans h.key,fun hc=>by
  obtain ⟨h1,h2,h3⟩:=k.old hc
  obtain ⟨h4,h5,h6⟩:=h.old h1
  exact ⟨h4,h2.trans h5,h3.trans h6⟩⟩
theorem EpI.same {l:List G.Note} {sn sn':List UInt8} {e e':G.Ep} (h:EpI l sn e) (h0:sn'=sn) (h1:e'.N=e.N) (h2:e'.Key=e.Key):EpI l sn' e':=by
  subst h0
  rcases h with h | ⟨n,a,b,c,d,f⟩
  · exact .inl (by omega)
  · exact .inr ⟨n,a,b,c,by rw [d,h1],by rw [f,h2]⟩
theorem ChE.chi {l:List G.Note} {c d:G.Chan} (h:ChE c d) (k:ChI l c):ChI l d:=
  ⟨k.1.same h.sn h.n h.key,fun hd=>(k.2 (h.old hd).1).same h.sn (h.old hd).2.1 (h.old hd).2.2⟩
structure ChT (c d:G.Chan):Prop where
  sn:d.Sn=c.Sn
  cur:d.Cur.N=0∨(d.Cur.N≠c.Cur.N∧0≤d.Cur.N)
  old:d.HasOld=true→d.Old.N=c.Cur.N∧d.Old.Key=c.Cur.Key
theorem ChT.chi {l m:List G.Note} {c d:G.Chan} (h:ChT c d) (k:ChI l c) (hn:d.Cur.N≠c.Cur.N→∃ n ∈ m,n.Kind=10∧n.Sn=d.Sn∧n.Epoch=d.Cur.N∧n.Key=d.Cur.Key):ChI (l++m) d:=by
  refine ⟨?_,fun hd=>((k.1.same h.sn (h.old hd).1 (h.old hd).2).mono)⟩
  rcases h.cur with h1 | h1
  · exact .inl h1
  · obtain ⟨n,a,b⟩:=hn h1.1
    exact .inr ⟨n,List.mem_append_right _ a,b⟩
theorem epSeal_e (e:G.Ep) (a:Int) (b:List UInt8) (c:Int) (d:List UInt8):(tEpSeal e a b c d).1.N=e.N∧(tEpSeal e a b c d).1.Key=e.Key:=by
  unfold tEpSeal
  simp only [cond_eq_ite]
  repeat' split
  all_goals exact ⟨rfl,rfl⟩
theorem chanSeal_e (c:G.Chan) (a:Int) (b:List UInt8):ChE c (tChanSeal c a b).1:=by
  unfold tChanSeal
  simp only [cond_eq_ite]
  have:=epSeal_e c.Cur c.Role c.Sn a b
  repeat' split
  all_goals first | exact .refl c | exact ⟨rfl,this.1,this.2,fun h=>⟨h,rfl,rfl⟩⟩
theorem askRekey_e (c:G.Chan):ChE c (tAskRekey c).1:=by
  unfold tAskRekey
  simp only [cond_eq_ite]
  split
  · exact .refl c
  · exact chanSeal_e _ _ _
theorem ack_e (c:G.Chan):ChE c (tAck c).1:=by
  unfold tAck
  simp only [cond_eq_ite]
  split
  · exact .refl c
  · exact chanSeal_e _ _ _
theorem chanTick_e (c:G.Chan) (n:Int):ChE c (tChanTick c n):=by
  unfold tChanTick
  simp only [cond_eq_ite]
  split
  · exact ⟨rfl,rfl,rfl,fun h=>nomatch h⟩
  · exact .refl c
theorem want_e (c:G.Chan):ChE c (tWant c).1:=by
  unfold tWant
  simp only [cond_eq_ite]
  split
  · exact .refl c
  · exact ⟨rfl,rfl,rfl,fun h=>⟨h,rfl,rfl⟩⟩
theorem epOpen_e (e:G.Ep) (a:Int) (f:G.Frame):(tEpOpen e a f).1.N=e.N∧(tEpOpen e a f).1.Key=e.Key:=by
  unfold tEpOpen
  simp only [cond_eq_ite]
  repeat' split
  all_goals exact ⟨rfl,rfl⟩
theorem epNew_n (n:Int) (k:List UInt8):(tEpNew n k).N=0∨((tEpNew n k).N=n∧0≤n):=by
  unfold tEpNew
  simp only [cond_eq_ite]
  split
  · exact .inl rfl
  · rename_i h
    simp only [Bool.or_eq_true,not_or,Bool.not_eq_true',Bool.not_eq_false] at h
    exact .inr ⟨rfl,(inR_iff.1 h.1).1⟩
theorem iadd_ne (n:Int):iadd .i64 n 1≠n:=by
  intro h
  have:=wrap_bd (n+1)
  by_cases h1: -9223372036854775808≤n+1∧n+1≤9223372036854775807
  · rw [iadd_eq h1.1 h1.2] at h;omega
  · have h2:IntKind.wrap .i64 (n+1)=n:=h
    have:n=9223372036854775807:=by omega
    subst this
    revert h;decide
theorem chanNew_z (r:Int) (s k:List UInt8):(tChanNew r s k).Cur.N=0∧(tChanNew r s k).HasOld=false:=by
  unfold tChanNew
  simp only [cond_eq_ite]
  split
  · exact ⟨rfl,rfl⟩
  · exact ⟨(epNew_n 0 k).elim id fun h=>h.1,rfl⟩
theorem turn_t (c:G.Chan) (h:(tTurn c).2=true):ChT c (tTurn c).1:=by
  unfold tTurn at h ⊢
  simp only [cond_eq_ite] at h ⊢
  split at h
  · cases h
  · rw [if_neg (by assumption)]
    refine ⟨rfl,?_,fun _=>⟨rfl,rfl⟩⟩
    rcases epNew_n (iadd .i64 c.Cur.N 1) (derive c.Cur.Key [114,101,107,101,121]) with h1 | h1
    · exact .inl h1
    · right
      show (tEpNew _ _).N≠c.Cur.N∧0≤(tEpNew _ _).N
      rw [h1.1]
      exact ⟨iadd_ne _,h1.2⟩
theorem hearRekey_t (c:G.Chan) (u:Int) (p:List UInt8):ChE c (tHearRekey c u p).1∨ChT c (tHearRekey c u p).1:=by
  unfold tHearRekey
  simp only [cond_eq_ite]
  repeat' split
  all_goals first
    | exact .inl (.refl c)
    | (rename_i h;exact .inr (turn_t c (by simpa using h)))
theorem chanOpen_t (c:G.Chan) (now:Int) (f:G.Frame):
    ((tChanOpen c now f).2.2=0→f.Sn=c.Sn)∧(ChE c (tChanOpen c now f).1∨(ChT c (tChanOpen c now f).1∧c.Next≠[])):=by
  unfold tChanOpen
  simp only [cond_eq_ite]
  have e1:=epOpen_e c.Cur (isub .i64 1 c.Role) f
  have e2:=epOpen_e c.Old (isub .i64 1 c.Role) f
  have e3:=epOpen_e (tEpNew (iadd .i64 c.Cur.N 1) c.Next) (isub .i64 1 c.Role) f
  split
  · exact ⟨fun h=>by simp at h, .inl (.refl c)⟩
  · split
    · exact ⟨fun h=>by simp at h, .inl (.refl c)⟩
    · rename_i hs
      have hsn:f.Sn=c.Sn:=by simpa using hs
      refine ⟨fun _=>hsn,?_⟩
      split
      · split
        · exact .inl (.refl c)
        · left
          split
          all_goals exact ⟨rfl,e1.1,e1.2,fun h=>⟨h,rfl,rfl⟩⟩
      · split
        · split
          · exact .inl (.refl c)
          · split
            · exact .inl (.refl c)
            · exact .inl ⟨rfl,rfl,rfl,fun h=>⟨h,e2.1,e2.2⟩⟩
        · split
          · rename_i hn
            split
            · exact .inl (.refl c)
            · refine .inr ⟨⟨rfl,?_,fun _=>⟨rfl,rfl⟩⟩,fun h0=>by simp [h0] at hn⟩
              show (tEpOpen _ _ _).1.N=0∨((tEpOpen _ _ _).1.N≠c.Cur.N∧0≤(tEpOpen _ _ _).1.N)
              rw [e3.1]
              rcases epNew_n (iadd .i64 c.Cur.N 1) c.Next with h1 | h1
              · exact .inl h1
              · right;rw [h1.1];exact ⟨iadd_ne _,h1.2⟩
          · exact .inl (.refl c)
end Go.D
namespace Go.D
structure CS (c d:G.Chan) (ns:List G.Note):Prop where
  chi:∀ l,ChI l c→ChI (l++ns) d
  ni:NI ns
theorem CS.same {c d:G.Chan} {ns:List G.Note} (h:ChE c d) (k:NI ns):CS c d ns:=⟨fun _ hl=>(h.chi hl).mono,k⟩
theorem CS.refl {c:G.Chan} {ns:List G.Note} (k:NI ns):CS c c ns:= .same (.refl c) k
theorem CS.zero {c d:G.Chan} {ns:List G.Note} (h:d.Cur.N=0) (h2:d.HasOld=false) (k:NI ns):CS c d ns:=⟨fun _ _=>chi_zero h h2,k⟩
theorem CS.then {c d e:G.Chan} {ns:List G.Note} (h:CS c d ns) (k:ChE d e):CS c e ns:=⟨fun l hl=>k.chi (h.chi l hl),h.ni⟩
theorem CS.more {c d:G.Chan} {ns ms:List G.Note} (h:CS c d ns) (k:NI ms):CS c d (ns++ms):=⟨fun l hl=>by rw [← List.append_assoc];exact (h.chi l hl).mono,h.ni.app k⟩
theorem CS.pre {c d:G.Chan} {ns ms:List G.Note} (h:CS c d ns) (k:NI ms):CS c d (ms++ns):=⟨fun l hl=>by rw [← List.append_assoc];exact h.chi _ hl.mono,k.app h.ni⟩
theorem made_i (c:G.Chan) (f:G.Frame):NoteI (tl19Made c f):=note_k 15 rfl (by decide)
theorem took_i (a b c:List UInt8):NoteI (tTook a b c):=note_k 16 rfl (by decide)
theorem end_i (s:G.Sess):NoteI (tl22End s):=note_k 11 rfl (by decide)
theorem rolled_i (b:List UInt8):NoteI (noteRolled b):=note_k 14 rfl (by decide)
theorem clientNew_z (i:Int) (p:List UInt8) (a:G.Addr):(clientNew i p a).C.Cur.N=0∧(clientNew i p a).C.HasOld=false:=by
  unfold clientNew
  cases inR i 1 9&&pskOk p&&addrOk a <;> exact ⟨rfl,rfl⟩
theorem idle_cs {c:G.Client} {d:G.Chan} {ns:List G.Note} (k:NI ns):CS d (tl19Idle c).C ns:= .zero (clientNew_z _ _ _).1 (clientNew_z _ _ _).2 k
theorem dial_cs (c:G.Client) (n:Int) (r:List UInt8):CS c.C (tDial c n r).1.C (tDial c n r).2.2.1:=by
  unfold tDial
  simp only [cond_eq_ite]
  repeat' split
  all_goals first | exact .refl ni_nil | exact .refl (ni_one (note_k 1 rfl (by decide)))
theorem clientSend_cs (c:G.Client) (n:Int) (r:List UInt8):CS c.C (tClientSend c n r).1.C (tClientSend c n r).2.2.1:=by
  unfold tClientSend
  simp only [cond_eq_ite]
  repeat' split
  all_goals first | exact .refl ni_nil | exact .same (chanSeal_e _ _ _) (ni_cons (made_i _ _) (ni_one (note_k 5 rfl (by decide))))
theorem clientRekey_cs (c:G.Client) (n:Int):CS c.C (tClientRekey c n).1.C (tClientRekey c n).2.2.1:=by
  unfold tClientRekey
  simp only [cond_eq_ite]
  repeat' split
  all_goals first | exact .refl ni_nil | exact .same ((want_e _).trans (askRekey_e _)) (ni_one (made_i _ _))
theorem roam_cs (c:G.Client) (a:G.Addr):CS c.C (tRoam c a).C []:=by
  unfold tRoam
  simp only [cond_eq_ite]
  split
  all_goals exact .refl ni_nil
theorem hang_cs (c:G.Client):CS c.C (tHang c).1.C (tHang c).2:=by
  unfold tHang
  simp only [cond_eq_ite]
  repeat' split
  · exact .refl ni_nil
  · exact idle_cs (ni_one (note_k 11 rfl (by decide)))
  · exact idle_cs ni_nil
theorem clientTick_cs (c:G.Client) (n:Int):CS c.C (tClientTick c n).1.C (tClientTick c n).2.2:=by
  unfold tClientTick
  simp only [cond_eq_ite]
  split
  · exact .refl ni_nil
  split
  · split
    · exact idle_cs (ni_one (note_k 17 rfl (by decide)))
    · exact .refl ni_nil
  split
  · exact idle_cs (ni_one (note_k 11 rfl (by decide)))
  split
  · exact .same (chanTick_e _ _) ni_nil
  split <;> split
  all_goals first
    | exact .same ((chanTick_e _ _).trans (askRekey_e _)) (ni_one (made_i _ _))
    | exact .same (chanTick_e _ _) ni_nil
theorem open_cs {c:G.Chan} {now:Int} {f:G.Frame} {n:G.Note} (hg:(tChanOpen c now f).2.2=0)
    (hn:n.Kind=10∧n.Sn=f.Sn∧n.Epoch=(tChanOpen c now f).1.Cur.N∧n.Key=(tChanOpen c now f).1.Cur.Key):
    CS c (tChanOpen c now f).1 (if (tChanOpen c now f).1.Cur.N !=c.Cur.N then [n] else []):=by
  obtain ⟨h1,h2⟩:=chanOpen_t c now f
  have hs:=h1 hg
  rcases h2 with h2 | ⟨h2,_⟩
  · have:((tChanOpen c now f).1.Cur.N !=c.Cur.N)=false:=by rw [h2.n];simp
    rw [this]
    exact .same h2 ni_nil
  · refine ⟨fun l hl=>h2.chi hl fun hne=>⟨n,?_,hn.1,by rw [hn.2.1,h2.sn,hs],hn.2.2.1,hn.2.2.2⟩,?_⟩
    · rw [if_pos (by simpa using hne)];exact List.mem_singleton.2 rfl
    · by_cases hne:((tChanOpen c now f).1.Cur.N !=c.Cur.N)=true
      · rw [if_pos hne]
        refine ni_one (note_e ?_)
        rw [hn.2.2.1]
        rcases h2.cur with h | h <;> omega
      · rw [if_neg hne];exact ni_nil
theorem cond_P {α:Type} (P:α→Prop) {b:Bool} {x y:α} (h:b=true→P x) (k:b=false→P y):P (cond b x y):=by
  cases b
  · exact k rfl
  · exact h rfl
def CHP (c:G.Client) (r:G.Client × List G.Frame × List G.Note):Prop:=CS c.C r.1.C r.2.2
theorem clientHear_cs (c:G.Client) (n:Int) (f:G.Frame):CHP c (tClientHear c n f):=by
  unfold tClientHear
  refine cond_P (CHP c) (fun _=> .refl ni_nil) fun _=>cond_P (CHP c) (fun _=>?_) fun _=>cond_P (CHP c) (fun _=> .refl ni_nil) fun _=>cond_P (CHP c) (fun _=> .refl ni_nil) fun hg=>?_
  · exact .zero (chanNew_z _ _ _).1 (chanNew_z _ _ _).2 (ni_cons (note_k 2 rfl (by decide)) (ni_one (note_k 15 rfl (by decide))))
  have hg:(tChanOpen c.C n f).2.2=0:=by simpa using hg
  have ho:=open_cs (n:=⟨10,0,0,[],f.Sn,(tChanOpen c.C n f).1.Cur.N,0,[],(tChanOpen c.C n f).1.Cur.Key,⟨0,0⟩,0⟩) hg ⟨rfl,rfl,rfl,rfl⟩
  extract_lets r20 r21 r22 x25 y23 x28 y26 x31 y29 r34 r37 x38 y35 y32
  have q23:NI y23.1∧y23.2.C=(tChanOpen c.C n f).1:=by
    have h0:NI [r22]:=ni_one (took_i _ _ _)
    refine cond_P (fun y:List G.Note × G.Client=>NI y.1∧y.2.C=(tChanOpen c.C n f).1) (fun _=>⟨h0.app (ni_one (note_e (Int.le_refl 0))),rfl⟩) fun _=>⟨h0,rfl⟩
  clear_value y23
  have q26:CS c.C y26.2.C y26.1:=by
    refine cond_P (fun y:List G.Note × G.Client=>CS c.C y.2.C y.1) (fun h=>?_) fun h=>?_
    · rw [h,if_pos rfl] at ho
      have:=ho.pre q23.1
      rw [← q23.2] at this;rw [q23.2] at this ⊢
      exact this
    · rw [h,if_neg (by simp)] at ho
      have:=ho.pre q23.1
      rw [List.append_nil] at this
      rw [q23.2];exact this
  have k26:y26.2.C=(tChanOpen c.C n f).1:=cond_P (fun y:List G.Note × G.Client=>y.2.C=(tChanOpen c.C n f).1) (fun _=>q23.2) fun _=>q23.2
  clear_value y26
  have q29:CS c.C y26.2.C y29:=cond_P (fun y:List G.Note=>CS c.C y26.2.C y) (fun _=>q26.more (ni_one (note_k 6 rfl (by decide)))) fun _=>q26
  clear_value y29
  have q32:CS c.C y32.2.2.C y32.2.1:=by
    refine cond_P (fun y:List G.Frame × List G.Note × G.Client=>CS c.C y.2.2.C y.2.1) (fun _=>?_) fun _=>q29
    refine cond_P (fun y:List G.Frame × List G.Note × G.Client=>CS c.C y.2.2.C y.2.1) (fun _=>?_) fun _=>q29
    refine ((q29.more (ni_one (made_i _ _))).more (ni_one (note_k 8 rfl (by decide)))).then ?_
    rw [k26];exact chanSeal_e _ _ _
  exact q32
theorem sessNew_z (p:List UInt8) (n:Int) (a:G.Addr) (f:G.Frame):(tSessNew p n a f).C.Cur.N=0∧(tSessNew p n a f).C.HasOld=false:=by
  unfold tSessNew
  simp only [cond_eq_ite]
  split
  · exact ⟨rfl,rfl⟩
  · exact chanNew_z _ _ _
theorem bury_cs (s:G.Sess):CS s.C (tBury s).C []:=by
  unfold tBury
  simp only [cond_eq_ite]
  split
  · exact .refl ni_nil
  · exact .zero rfl rfl ni_nil
theorem sessTick_cs (s:G.Sess) (n:Int):CS s.C (tSessTick s n).C []:=by
  unfold tSessTick
  simp only [cond_eq_ite]
  repeat' split
  · exact .refl ni_nil
  · exact bury_cs s
  · exact .same (chanTick_e _ _) ni_nil
theorem sessAck_cs (s:G.Sess):CS s.C (tSessAck s).1.C (tSessAck s).2.2:=by
  unfold tSessAck
  simp only [cond_eq_ite]
  repeat' split
  · exact .refl ni_nil
  · exact .refl ni_nil
  · exact .same (ack_e _) (ni_one (made_i _ _))
theorem sessSend_cs (s:G.Sess) (b:List UInt8):CS s.C (tSessSend s b).1.C (tSessSend s b).2.2.1:=by
  unfold tSessSend
  simp only [cond_eq_ite]
  repeat' split
  all_goals first | exact .refl ni_nil | exact .same (chanSeal_e _ _ _) (ni_cons (made_i _ _) (ni_one (note_k 5 rfl (by decide))))
theorem sessOk_next {s:G.Sess} (h:sessOk s=true) (hd:s.Dead=false):s.C.Next=[]∧s.C.Sn=s.Sn:=by
  unfold sessOk at h
  rw [hd,cond_false] at h
  simp only [Bool.and_eq_true,beq_iff_eq] at h
  obtain ⟨_,⟨⟨⟨h1,h2⟩,h3⟩,_⟩,_⟩:=h
  refine ⟨?_,h3⟩
  unfold chanOk at h1
  simp only [Bool.and_eq_true,Bool.or_eq_true,beq_iff_eq] at h1
  rcases h1.2 with h4 | h4
  · exact List.eq_nil_of_length_eq_zero (by omega)
  · simp [h2] at h4
end Go.D
namespace Go.D
def SHP (s:G.Sess) (r:G.Sess × List G.Out × List G.Note × Bool):Prop:=CS s.C r.1.C r.2.2.1
theorem sessHear_cs (s:G.Sess) (n:Int) (a:G.Addr) (f:G.Frame) (b:List UInt8):SHP s (tSessHear s n a f b):=by
  unfold tSessHear
  refine cond_P (SHP s) (fun _=> .refl ni_nil) fun hk=>cond_P (SHP s) (fun _=> .refl ni_nil) fun _=>?_
  have hk:sessOk s=true∧s.Dead=false:=by
    simp only [Bool.or_eq_false_iff,Bool.not_eq_false'] at hk
    exact ⟨hk.1,hk.2.1⟩
  obtain ⟨hnx,hsn⟩:=sessOk_next hk.1 hk.2
  have hE:ChE s.C (tChanOpen s.C n f).1:=(chanOpen_t s.C n f).2.elim id fun h=>absurd hnx h.2
  extract_lets r6 r7 r8 x11 r14 x17 y15 r20 x25 y23 r26 r29 y27 y21 y18 y12 y9 r30 r31 y32 r34
  have h8:NI [r8]:=ni_one (took_i _ _ _)
  have q0:CS s.C (tChanOpen s.C n f).1 [r8]:= .same hE h8
  let Q:List G.Out × List G.Note × G.Sess→Prop:=fun y=>CS s.C y.2.2.C y.2.1
  have q15:CS s.C y15.2.C y15.1:=cond_P (fun y:List G.Note × G.Sess=>CS s.C y.2.C y.1) (fun _=>q0.more (ni_one (note_k 9 rfl (by decide)))) fun _=>q0
  have q23:CS s.C r20.1 y23:=by
    rcases hearRekey_t (tChanOpen s.C n f).1 f.Epoch (tChanOpen s.C n f).2.1 with h | h
    · refine .same (hE.trans h) ?_
      have e:(r20.1.Cur.N !=(tChanOpen s.C n f).1.Cur.N)=false:=by
        have:r20.1.Cur.N=(tChanOpen s.C n f).1.Cur.N:=h.n
        rw [this];simp
      show NI (cond (r20.1.Cur.N !=(tChanOpen s.C n f).1.Cur.N) ([r8]++x25) [r8])
      rw [e];exact h8
    · have hc:∀ h0:r20.1.Cur.N≠(tChanOpen s.C n f).1.Cur.N,y23=[r8]++x25:=fun h0=>by
        show cond (r20.1.Cur.N !=(tChanOpen s.C n f).1.Cur.N) ([r8]++x25) [r8]=_
        rw [show (r20.1.Cur.N !=(tChanOpen s.C n f).1.Cur.N)=true by simpa using h0];rfl
      refine ⟨fun l hl=>h.chi (hE.chi hl) fun h0=>?_,?_⟩
      · rw [hc h0]
        refine ⟨_,List.mem_append_right _ (List.mem_singleton.2 rfl),rfl,?_,rfl,rfl⟩
        show s.Sn=r20.1.Sn
        rw [show r20.1.Sn=(tChanOpen s.C n f).1.Sn from h.sn,hE.sn,hsn]
      · by_cases h0:r20.1.Cur.N=(tChanOpen s.C n f).1.Cur.N
        · show NI (cond (r20.1.Cur.N !=(tChanOpen s.C n f).1.Cur.N) ([r8]++x25) [r8])
          rw [show (r20.1.Cur.N !=(tChanOpen s.C n f).1.Cur.N)=false by simp [h0]];exact h8
        · rw [hc h0]
          refine h8.app (ni_one (note_e ?_))
          show 0≤r20.1.Cur.N
          rcases h.cur with h1 | h1
          · have:r20.1.Cur.N=0:=h1
            omega
          · exact h1.2
  have q27:Q y27:=cond_P Q (fun _=>(q23.more (ni_one (made_i _ _))).then (ack_e _)) fun _=>q23
  have q21:Q y21:=cond_P Q (fun _=>q27) fun _=>q0
  have q18:Q y18:=cond_P Q (fun _=>q21) fun _=>q0
  have q12:Q y12:=cond_P Q (fun _=>q15) fun _=>q18
  have q9:Q y9:=cond_P Q (fun _=>q0.more (ni_one (note_k 6 rfl (by decide)))) fun _=>q12
  exact cond_P (SHP s) (fun _=>q9) fun _=>(q9.more (ni_one (made_i _ _))).then (chanSeal_e _ _ _)
theorem iter_inv {σ:Type} {P:σ→Prop} {s:σ→σ} (h:∀ x,P x→P (s x)):∀ (n:Nat) {x:σ},P x→P (iter s n x)
  | 0,x,hx=>by rw [iter_zero];exact hx
  | n+1,x,hx=>by rw [iter_succ];exact iter_inv h n (h x hx)
theorem getD_P {α:Type} [Inhabited α] {P:α→Prop} {l:List α} {i:Nat} (h0:P default) (h:∀ x ∈ l,P x):P (l[i]?.getD default):=by
  cases hi:l[i]? with
  | none=>exact h0
  | some x=>exact h x (List.mem_of_getElem? hi)
theorem idxD_P {α:Type} [Inhabited α] {P:α→Prop} {l:List α} {i:Int} (h0:P default) (h:∀ x ∈ l,P x):P ((idxI l i).getD default):=by
  unfold idxI
  split
  · exact getD_P h0 h
  · exact h0
theorem mem_set {α:Type} {l:List α} {k:Nat} {x y:α} (h:y ∈ l.set k x):y ∈ l∨(y=x∧∃ e,l[k]?=some e):=by
  by_cases hk:k<l.length
  · rcases List.mem_or_eq_of_mem_set h with h | h
    · exact .inl h
    · exact .inr ⟨h,_,List.getElem?_eq_getElem hk⟩
  · rw [List.set_eq_of_length_le (by omega)] at h
    exact .inl h
structure TS (t t':G.Tab) (ns:List G.Note):Prop where
  tab:∀ l,TabI l t→TabI (l++ns) t'
  ni:NI ns
theorem TS.refl {t:G.Tab} {ns:List G.Note} (h:NI ns):TS t t ns:=⟨fun _ k=>k.mono,h⟩
theorem TS.more {t t':G.Tab} {ns ms:List G.Note} (h:TS t t' ns) (k:NI ms):TS t t' (ns++ms):=⟨fun l hl=>by rw [← List.append_assoc];exact (h.tab l hl).mono,h.ni.app k⟩
theorem TS.pre {t t':G.Tab} {ns ms:List G.Note} (h:TS t t' ns) (k:NI ms):TS t t' (ms++ns):=⟨fun l hl=>by rw [← List.append_assoc];exact h.tab _ hl.mono,k.app h.ni⟩
theorem TS.trans {a b c:G.Tab} {ns ms:List G.Note} (h:TS a b ns) (k:TS b c ms):TS a c (ns++ms):=⟨fun l hl=>by rw [← List.append_assoc];exact k.tab _ (h.tab l hl),h.ni.app k.ni⟩
theorem TS.set {t:G.Tab} {k:Nat} {d:G.Sess} {ns:List G.Note} (h:∀ e,t.L[k]?=some e→CS e.C d.C ns) (hn:NI ns) {c:Int}:TS t ⟨c,t.L.set k d⟩ ns:=⟨fun l hl s hs=>by
  rcases mem_set hs with h1 | ⟨rfl,e,he⟩
  · exact (hl s h1).mono
  · exact (h e he).chi l (hl e (List.mem_of_getElem? he)),hn⟩
theorem idx_of {α:Type} [Inhabited α] {l:List α} {i:Int} {e:α} (h:0≤i) (he:l[i.toNat]?=some e):(idxI l i).getD default=e:=by
  unfold idxI
  rw [if_pos h,he];rfl
theorem chi_default (l:List G.Note):ChI l (default:G.Sess).C:=chi_zero rfl rfl
theorem tabTick_ts (t:G.Tab) (n:Int):TS t (tTabTick t n) []:=by
  unfold tTabTick
  refine cond_P (fun r=>TS t r []) (fun _=> .refl ni_nil) fun _=>?_
  refine ⟨fun l hl=>?_,ni_nil⟩
  rw [List.append_nil]
  refine iter_inv (P:=fun x:Int × G.Tab=>TabI l x.2) (fun x hx=>?_) _ (show TabI l ⟨t.Cap,[]⟩ from fun s hs=>nomatch hs)
  refine cond_P (fun y:G.Tab=>TabI l y) (fun _ s hs=>?_) fun _=>hx
  rcases List.mem_append.1 hs with h | h
  · exact hx s h
  · rw [List.mem_singleton.1 h]
    have:=(sessTick_cs ((idxI t.L x.1).getD default) n).chi l (idxD_P (P:=fun s:G.Sess=>ChI l s.C) (chi_default l) hl)
    rwa [List.append_nil] at this
theorem addSess_ts (t:G.Tab) (s:G.Sess) (hs:s.C.Cur.N=0∧s.C.HasOld=false):TS t (tAddSess t s).1 []:=by
  unfold tAddSess
  refine cond_P (fun r:G.Tab × Int=>TS t r.1 []) (fun _=> .refl ni_nil) fun _=>cond_P (fun r:G.Tab × Int=>TS t r.1 []) (fun _=> .refl ni_nil) fun _=>cond_P (fun r:G.Tab × Int=>TS t r.1 []) (fun _=> .refl ni_nil) fun _=>?_
  refine ⟨fun l hl x hx=>?_,ni_nil⟩
  rw [List.append_nil]
  rcases List.mem_append.1 hx with h | h
  · exact hl x h
  · rw [List.mem_singleton.1 h];exact chi_zero hs.1 hs.2
theorem out_tab (s:G.Server) (l:List G.Out):(tl22Out s l).2.T=s.T:=by
  unfold tl22Out
  refine iter_inv (P:=fun x:List G.Out × Int × G.Server=>x.2.2.T=s.T) (fun x hx=>?_) _ (Eq.refl s.T)
  refine cond_P (fun y:List G.Out × G.Server=>y.2.T=s.T) (fun _=>?_) fun _=>hx
  exact cond_P (fun y:List G.Out × G.Server=>y.2.T=s.T) (fun _=>hx) fun _=>hx
def SVP (s:G.Server) (r:G.Server × List G.Out × List G.Note):Prop:=TS s.T r.1.T r.2.2
theorem svp_out {s t:G.Server} {l:List G.Out} {ns:List G.Note} (h:TS s.T t.T ns):SVP s ((tl22Out t l).2,(tl22Out t l).1,ns):=by
  show TS s.T (tl22Out t l).2.T ns
  rw [out_tab];exact h
theorem serverSend_ts (s:G.Server) (n i:Int) (b:List UInt8):TS s.T (tServerSend s n i b).1.T (tServerSend s n i b).2.2.1:=by
  unfold tServerSend
  let P:G.Server × List G.Out × List G.Note × Int→Prop:=fun r=>TS s.T r.1.T r.2.2.1
  refine cond_P P (fun _=> .refl ni_nil) fun _=>cond_P P (fun _=> .refl ni_nil) fun hi=>?_
  have hi:0≤i:=by
    simp only [Bool.not_eq_false'] at hi
    exact (inR_iff.1 hi).1
  extract_lets e6 r7 e10 y8
  have hcs:∀ e,s.T.L[i.toNat]?=some e→CS e.C r7.1.C r7.2.2.1:=fun e he=>by
    rw [← idx_of hi he];exact sessSend_cs _ _
  exact cond_P (fun y:G.Server=>TS s.T y.T r7.2.2.1) (fun _=> .set hcs (sessSend_cs e6 b).ni) fun _=> .refl (sessSend_cs e6 b).ni
theorem serverTick_ts (s:G.Server) (n:Int):TS s.T (tServerTick s n).1.T (tServerTick s n).2:=by
  unfold tServerTick
  let P:G.Server × List G.Note→Prop:=fun r=>TS s.T r.1.T r.2
  refine cond_P P (fun _=> .refl ni_nil) fun _=>?_
  refine (tabTick_ts s.T n).more (ms:=_) ?_
  refine iter_inv (P:=fun x:List G.Note × Int=>NI x.1) (fun x hx=>?_) _ ni_nil
  exact cond_P (fun y:List G.Note=>NI y) (fun _=>hx.app (ni_one (end_i _))) fun _=>hx
theorem serverClose_ts (s:G.Server) (i:Int):TS s.T (tServerClose s i).1.T (tServerClose s i).2.1:=by
  unfold tServerClose
  let P:G.Server × List G.Note × Int→Prop:=fun r=>TS s.T r.1.T r.2.1
  refine cond_P P (fun _=> .refl ni_nil) fun _=>cond_P P (fun _=> .refl ni_nil) fun hi=>?_
  have hi:0≤i:=by
    simp only [Bool.or_eq_false_iff,Bool.not_eq_false'] at hi
    exact (inR_iff.1 hi.1).1
  refine .set (fun e he=>?_) (ni_one (end_i _))
  rw [← idx_of hi he]
  exact (bury_cs _).pre (ms:=[_]) (ni_one (end_i _))
theorem boot_ts (s:G.Server):TS s.T (tBoot s).1.T (tBoot s).2:=by
  unfold tBoot
  let P:G.Server × List G.Note→Prop:=fun r=>TS s.T r.1.T r.2
  refine cond_P P (fun _=> .refl ni_nil) fun _=>?_
  refine ⟨fun l _ x hx=>?_,ni_cons (rolled_i _) (ni_one (note_k 12 rfl (by decide)))⟩
  have:(tabNew s.T.Cap).L=[]:=by
    unfold tabNew
    cases inR s.T.Cap 1 6 <;> rfl
  have hx:x ∈ (tabNew s.T.Cap).L:=hx
  rw [this] at hx;cases hx
end Go.D
namespace Go.D
set_option maxHeartbeats 1000000 in
theorem serverHear_ts (s:G.Server) (n:Int) (a:G.Addr) (b:List UInt8):SVP s (tServerHear s n a b):=by
  unfold tServerHear
  have R:∀ {t:G.Server},t.T=s.T→SVP s (t,[],[]):=fun h=>by
    show TS s.T _ []
    rw [h];exact .refl ni_nil
  refine cond_P (SVP s) (fun _=>R rfl) fun _=>cond_P (SVP s) (fun _=>R rfl) fun _=>cond_P (SVP s) (fun _=>?_) fun _=>cond_P (SVP s) (fun _=>?_) fun _=>cond_P (SVP s) (fun _=>?_) fun _=>?_
  · refine cond_P (SVP s) (fun _=>R rfl) fun _=>?_
    exact svp_out (.refl (ni_cons (rolled_i _) (ni_one (note_k 15 rfl (by decide)))))
  · refine cond_P (SVP s) (fun _=>R rfl) fun _=>cond_P (SVP s) (fun _=>?_) fun hf=>?_
    · refine cond_P (SVP s) (fun _=>R rfl) fun _=>?_
      extract_lets r31 r32 e33 r34 r35 r36 x37 e38 r41 y39 r44 y42 r65
      have h1:TS s.T (tAddSess s.T (tSessNew ((idxI s.Psks (isub .i64 (tGetFrame b).1.Id 1)).getD default) n a (tGetFrame b).1)).1 (([r32]++[r36])++x37):=(((addSess_ts s.T _ (sessNew_z _ _ _ _)).more (ni_one (took_i _ _ _))).more (ms:=[r36]) (ni_one (took_i _ _ _))).more (ni_one (note_e (Int.le_refl 0)))
      have h2:TS s.T y42.2.2.T y42.2.1:=by
        refine cond_P (fun y:List G.Out × List G.Note × G.Server=>TS s.T y.2.2.T y.2.1) (fun _=>?_) fun _=>h1
        refine h1.trans (.set (fun e he=>?_) (sessAck_cs e38).ni)
        have:e38=e:=by
          show ((tAddSess _ _).1.L[_]?).getD default=e
          rw [he];rfl
        rw [← this];exact sessAck_cs e38
      exact svp_out h2
    · extract_lets e38 r41 y39 r44 y42 r65
      have h2:TS s.T y42.2.2.T y42.2.1:=by
        refine cond_P (fun y:List G.Out × List G.Note × G.Server=>TS s.T y.2.2.T y.2.1) (fun _=>?_) fun _=> .refl ni_nil
        refine .set (fun e he=>?_) (sessAck_cs e38).ni
        have:e38=e:=by
          show (s.T.L[_]?).getD default=e
          rw [he];rfl
        rw [← this];exact sessAck_cs e38
      exact svp_out h2
  · refine cond_P (SVP s) (fun _=>R rfl) fun hi=>?_
    have hi:0≤findSn s.T (tGetFrame b).1.Sn:=by
      simp only [Bool.or_eq_false_iff,decide_eq_false_iff_not,Int.not_lt] at hi
      exact hi.1
    extract_lets r52 r53 y54 e56 r57 e58 r61 y59 x64 y62 r65
    have hc:∀ e,s.T.L[(findSn s.T (tGetFrame b).1.Sn).toNat]?=some e→CS e.C r57.1.C r57.2.2.1:=fun e he=>by
      rw [← idx_of hi he];exact sessHear_cs _ _ _ _ _
    have h57:NI r57.2.2.1:=(sessHear_cs e56 n a (tGetFrame b).1 y54).ni
    have h61:NI y59.1:=cond_P (fun y:List G.Note × G.Server=>NI y.1) (fun _=>ni_one (rolled_i _)) fun _=>ni_nil
    have e59:y59.2.T=⟨s.T.Cap,s.T.L.set (findSn s.T (tGetFrame b).1.Sn).toNat r57.1⟩:=cond_P (fun y:List G.Note × G.Server=>y.2.T=⟨s.T.Cap,s.T.L.set (findSn s.T (tGetFrame b).1.Sn).toNat r57.1⟩) (fun _=>rfl) fun _=>rfl
    have h1:TS s.T y59.2.T (y59.1++r57.2.2.1):=by rw [e59];exact (TS.set hc h57).pre h61
    have h62:TS s.T y59.2.T y62:=cond_P (fun y:List G.Note=>TS s.T y59.2.T y) (fun _=>h1.more (ni_one (note_k 7 rfl (by decide)))) fun _=>h1
    exact svp_out h62
  · exact svp_out (.refl ni_nil)
theorem see_eq (w:G.World) (l:List G.Wire) (ns:List G.Note):(tl26See w l ns).Notes=w.Notes++ns∧(tl26See w l ns).Clients=w.Clients∧(tl26See w l ns).S=w.S:=by
  unfold tl26See
  have:=iter_inv (P:=fun x:Int × G.World=>x.2.Notes=w.Notes∧x.2.Clients=w.Clients∧x.2.S=w.S) (s:=fun (x3:Int × G.World)=>((iadd .i64 x3.1 1),(bif decide ((x3.2.Seen.length:Int)<90) then (⟨x3.2.Now,x3.2.Clients,x3.2.S,x3.2.D,x3.2.Seen++[(idxI l x3.1).getD default],x3.2.Known,x3.2.Notes⟩:G.World) else x3.2)))
    (fun x hx=>cond_P (fun y:G.World=>y.Notes=w.Notes∧y.Clients=w.Clients∧y.S=w.S) (fun _=>hx) fun _=>hx) (l.length:Int).toNat (x:=(0,w)) ⟨rfl,rfl,rfl⟩
  exact ⟨by rw [← this.1],this.2.1,this.2.2⟩
theorem WI.of {w v:G.World} {ns:List G.Note} (h:WI w) (e:v.Notes=w.Notes++ns) (hn:NI ns) (hc:CliI (w.Notes++ns) v.Clients) (ht:TabI (w.Notes++ns) v.S.T):WI v:=
  ⟨by rw [e];exact h.ns.app hn,by rw [e];exact hc,by rw [e];exact ht⟩
theorem cli_set {l ns:List G.Note} {cs:List G.Client} {k:Nat} {d:G.Client} (h:CliI l cs) (hc:∀ e,cs[k]?=some e→CS e.C d.C ns):CliI (l++ns) (cs.set k d):=fun c hc'=>by
  rcases mem_set hc' with h1 | ⟨rfl,e,he⟩
  · exact (h c h1).mono
  · exact (hc e he).chi l (h e (List.mem_of_getElem? he))
theorem got {α:Type} [Inhabited α] {l:List α} {k:Nat} {e:α} (h:l[k]?=some e):l[k]?.getD default=e:=by rw [h];rfl
theorem wi_client {w:G.World} (h:WI w) (k:Int) (d:G.Client) (fs:List G.Frame) (ns:List G.Note) (hc:∀ e,w.Clients[k.toNat]?=some e→CS e.C d.C ns) (hn:NI ns):WI (tl26Client w k d fs ns):=by
  obtain ⟨e1,e2,e3⟩:=see_eq ⟨w.Now,List.set w.Clients k.toNat d,w.S,w.D,w.Seen,w.Known,w.Notes⟩ (tl25Sent d fs) ns
  refine h.of (v:=tl26See _ _ _) e1 hn ?_ ?_
  · rw [e2];exact cli_set h.cl hc
  · rw [e3];exact h.tb.mono
theorem wi_see {w v:G.World} (h:WI w) (l:List G.Wire) {ns:List G.Note} (e1:v.Notes=w.Notes) (e2:v.Clients=w.Clients) (ht:TS w.S.T v.S.T ns):WI (tl26See v l ns):=by
  obtain ⟨f1,f2,f3⟩:=see_eq v l ns
  exact h.of (by rw [f1,e1]) ht.ni (by rw [f2,e2];exact h.cl.mono) (by rw [f3];exact ht.tab _ h.tb)
theorem wi_see0 {v:G.World} (h:WI v) (l:List G.Wire):WI (tl26See v l []):=wi_see h l rfl rfl (.refl ni_nil)
theorem wi_post {w:G.World} (h:WI w) (to:Int) (a:G.Addr) (b:List UInt8):WI (tl25Post w to a b).2:=by
  unfold tl25Post
  refine cond_P (fun r:List G.Wire × G.World=>WI r.2) (fun _=>?_) fun _=>cond_P (fun r:List G.Wire × G.World=>WI r.2) (fun _=>h) fun _=>?_
  · have:=serverHear_ts w.S w.Now a b
    exact h.of rfl this.ni h.cl.mono (this.tab _ h.tb)
  · refine h.of rfl (clientHear_cs _ _ _).ni (cli_set h.cl fun e he=>?_) h.tb.mono
    rw [← got he];exact clientHear_cs _ _ _
theorem wi_post26 {w:G.World} (h:WI w) (to:Int) (a:G.Addr) (b:List UInt8):WI (tl26Post w to a b):=wi_see0 (wi_post h to a b) _
theorem wi_tick {w:G.World} (h:WI w):WI (tl25Tick w).2:=by
  unfold tl25Tick
  extract_lets r0 y1 r9
  have h1:WI y1.2:=by
    refine iter_inv (P:=fun x:List G.Wire × Int × G.World=>WI x.2.2) (fun x hx=>?_) _ (show WI ⟨iadd .i64 w.Now 1,w.Clients,w.S,w.D,w.Seen,w.Known,w.Notes⟩ from ⟨h.ns,h.cl,h.tb⟩)
    refine hx.of rfl (clientTick_cs _ _).ni (cli_set hx.cl fun e he=>?_) hx.tb.mono
    rw [← got he];exact clientTick_cs _ _
  have:=serverTick_ts y1.2.S y1.2.Now
  exact h1.of rfl this.ni h1.cl.mono (this.tab _ h1.tb)
theorem wi_show {w:G.World} (h:WI w) (c:G.Chan):WI (tl26Show w c).2:=by
  unfold tl26Show
  refine cond_P (fun r:Bool × G.World=>WI r.2) (fun _=>h) fun _=>?_
  exact h.of rfl (ni_one (note_k 13 rfl (by decide))) h.cl.mono h.tb.mono
set_option maxHeartbeats 1000000 in
theorem wi_do4 {w:G.World} (h:WI w) (e:G.Event) (x:G.Wire):WI (tl26Dok4 w e x).2:=by
  unfold tl26Dok4
  let P:Bool × G.World→Prop:=fun r=>WI r.2
  have Z:∀ {b:Bool},P (b,w):=h
  refine cond_P P (fun _=>cond_P P (fun _=>Z) fun _=>?_) fun _=>?_
  · refine wi_client (w:=⟨w.Now,w.Clients,w.S,_,w.Seen,w.Known,w.Notes++[_]⟩) (h.of rfl (ni_one (rolled_i _)) h.cl.mono h.tb.mono) _ _ _ _ (fun e he=>?_) (dial_cs _ _ _).ni
    rw [← got he];exact dial_cs _ _ _
  refine cond_P P (fun _=>cond_P P (fun _=>Z) fun _=>?_) fun _=>?_
  · refine wi_client h _ _ _ _ (fun e he=>?_) (clientSend_cs _ _ _).ni
    rw [← got he];exact clientSend_cs _ _ _
  refine cond_P P (fun _=>cond_P P (fun _=>Z) fun _=>wi_see h _ rfl rfl (serverSend_ts _ _ _ _)) fun _=>?_
  refine cond_P P (fun _=>cond_P P (fun _=>Z) fun _=>wi_see0 (wi_tick h) _) fun _=>?_
  refine cond_P P (fun _=>?_) fun _=>?_
  · show WI ⟨_,_,_,_,_,_,_⟩
    refine h.of (ns:=[]) (by simp) ni_nil (cli_set h.cl fun e he=>?_) h.tb.mono
    rw [← got he];exact roam_cs _ _
  refine cond_P P (fun _=>cond_P P (fun _=>Z) fun _=>?_) fun _=>?_
  · refine wi_client h _ _ _ _ (fun e he=>?_) (clientRekey_cs _ _).ni
    rw [← got he];exact clientRekey_cs _ _
  refine cond_P P (fun _=>cond_P P (fun _=>Z) fun _=>wi_post26 h _ _ _) fun _=>?_
  refine cond_P P (fun _=>wi_post26 h _ _ _) fun _=>?_
  refine cond_P P (fun _=>wi_post26 h _ _ _) fun _=>?_
  refine cond_P P (fun _=>cond_P P (fun _=>Z) fun _=>wi_post26 h _ _ _) fun _=>?_
  refine cond_P P (fun _=>cond_P P (fun _=>Z) fun _=>wi_post26 h _ _ _) fun _=>?_
  refine cond_P P (fun _=>cond_P P (fun _=>Z) fun _=>wi_see h _ rfl rfl (boot_ts _)) fun _=>?_
  refine cond_P P (fun _=>cond_P P (fun _=>Z) fun _=>?_) fun _=>?_
  · refine wi_client h _ _ _ _ (fun e he=>?_) (hang_cs _).ni
    rw [← got he];exact hang_cs _
  refine cond_P P (fun _=>cond_P P (fun _=>Z) fun _=>wi_see h _ rfl rfl (serverClose_ts _ _)) fun _=>?_
  refine cond_P P (fun _=>cond_P P (fun _=>wi_show h _) fun _=>Z) fun _=>?_
  refine cond_P P (fun _=>cond_P P (fun _=>cond_P P (fun _=>wi_show h _) fun _=>Z) fun _=>Z) fun _=>?_
  exact cond_P (fun y:G.World=>WI y) (fun _=>cond_P (fun y:G.World=>WI y) (fun _=>⟨h.ns,h.cl,h.tb⟩) fun _=>⟨h.ns,h.cl,h.tb⟩) fun _=>h
theorem wi_do {w:G.World} (h:WI w) (e:G.Event):WI (tl26Do w e).2:=by
  unfold tl26Do
  let P:Bool × G.World→Prop:=fun r=>WI r.2
  exact cond_P P (fun _=>cond_P P (fun _=>h) fun _=>wi_do4 h e _) fun _=>wi_do4 h e _
end Go.D
namespace Go.D
theorem wi_new (s a b:List UInt8) (m:Int):WI (worldNew s a b m):=by
  unfold worldNew
  refine cond_P WI (fun _=>⟨ni_cons (rolled_i _) (ni_one (note_k 12 rfl (by decide))),fun c hc=>?_,fun x hx=>?_⟩) fun _=>⟨ni_nil,fun c hc=>(nomatch hc),fun x hx=>(nomatch hx)⟩
  · rcases List.mem_cons.1 hc with rfl | hc
    · exact chi_zero (clientNew_z _ _ _).1 (clientNew_z _ _ _).2
    · rw [List.mem_singleton.1 hc];exact chi_zero (clientNew_z _ _ _).1 (clientNew_z _ _ _).2
  · have hx:x ∈ (tabNew m).L:=hx
    have:(tabNew m).L=[]:=by
      unfold tabNew
      cases inR m 1 6 <;> rfl
    rw [this] at hx;cases hx
theorem wi_events (c:G.Cur) (m:Int) (b:Bool):WI (tl26Events c m b).2.2.1:=by
  unfold tl26Events
  refine iter_inv (P:=fun x:List G.Event × Int × G.Cur × Int × G.World=>WI x.2.2.2.2) (fun x hx=>?_) _ (wi_new _ _ _ _)
  extract_lets r8 r12 y10 y13
  have h10:WI y10.2:=cond_P (fun y:Bool × G.World=>WI y.2) (fun _=>cond_P (fun y:Bool × G.World=>WI y.2) (fun _=>wi_do hx _) fun _=>hx) fun _=>hx
  exact cond_P (fun y:G.World=>WI y) (fun _=>h10) fun _=>hx
theorem wi_world (c:G.Cur) (m:Int):WI (tl26World c m).1:=wi_events _ _ _
theorem twice_of {l:List G.Note} {x y:G.Note} (hx:x ∈ l) (hy:y ∈ l) (kx:isKey x=true) (ky:isKey y=true) (hk:x.Key=y.Key) (he:x.Epoch≠y.Epoch):twice l=true:=by
  obtain ⟨i,hi,ei⟩:=List.mem_iff_getElem.1 hx
  obtain ⟨j,hj,ej⟩:=List.mem_iff_getElem.1 hy
  have hne:i≠j:=by
    rintro rfl
    rw [ei] at ej
    exact he (by rw [ej])
  have key:∀ {a b:G.Note},isKey a=true→isKey b=true→a.Epoch≠b.Epoch→differ a b=true:=fun {a b} h1 h2 h3=>by
    unfold differ
    rw [h1,h2,show (a.Epoch !=b.Epoch)=true by simpa using h3]
    simp
  unfold twice
  rcases Nat.lt_or_gt_of_ne hne with h | h
  · refine anyN_iff.2 ⟨j,hj,anyN_iff.2 ⟨i,h,?_⟩⟩
    rw [List.getElem?_eq_getElem hj,List.getElem?_eq_getElem hi,ei,ej]
    show (x.Key==y.Key&&differ x y)=true
    rw [hk,key kx ky he];simp
  · refine anyN_iff.2 ⟨i,hi,anyN_iff.2 ⟨j,h,?_⟩⟩
    rw [List.getElem?_eq_getElem hj,List.getElem?_eq_getElem hi,ei,ej]
    show (y.Key==x.Key&&differ y x)=true
    rw [hk,key ky kx (Ne.symm he)];simp
theorem ep_fresh {l:List G.Note} {sn:List UInt8} {e:G.Ep} {x:G.Note} (hn:NI l) (h:EpI l sn e) (hx:x ∈ l) (kx:isKey x=true) (hk:x.Key=e.Key) (hlt:x.Epoch<e.N):twice l=true:=by
  rcases h with h | ⟨y,hy,h1,_,h2,h3⟩
  · have:=hn x hx kx;omega
  · refine twice_of hx hy kx ?_ (by rw [hk,h3]) (by omega)
    simp [isKey,h1]
theorem erased_of {l:List G.Note} {c:G.Chan} (hn:NI l) (h:ChI l c) (hl:lucky l=false):erased l c=true:=by
  unfold erased
  rw [Bool.not_eq_true',List.any_eq_false]
  intro x hx hk
  simp only [kept,Bool.and_eq_true,decide_eq_true_eq,Bool.or_eq_true,beq_iff_eq] at hk
  obtain ⟨⟨⟨kx,_⟩,hlt⟩,hkey⟩:=hk
  have h0:=hn x hx kx
  have htw:twice l=true:=by
    unfold oldest at hlt
    cases hc:chanOk c
    · rw [hc,cond_false] at hlt;omega
    · rw [hc,cond_true] at hlt
      cases ho:c.HasOld
      · rw [ho,cond_false] at hlt
        rcases hkey with hkey | hkey
        · exact ep_fresh hn h.1 hx kx hkey hlt
        · rw [ho] at hkey;simp at hkey
      · rw [ho,cond_true] at hlt
        rcases hkey with hkey | ⟨_,hkey⟩
        · refine ep_fresh hn h.1 hx kx hkey ?_
          simp only [chanOk,oldOk,epOk,ho,cond_true,Bool.and_eq_true,beq_iff_eq,inR_true] at hc
          obtain ⟨⟨⟨_,hcur⟩,hold⟩,_⟩:=hc
          have e1:=hold.1.2
          have e2:=hcur.1.1.1
          rw [isub_eq (by omega) (by omega)] at e1
          omega
        · exact ep_fresh hn (h.2 ho) hx kx hkey hlt
  rw [lucky,htw] at hl
  simp at hl
end Go.D
namespace Go.D
theorem drawWorld_wi {x:List UInt8} {w:G.World} (h:spec_DrawWorld.raw x=some w):WI w:=by
  unfold spec_DrawWorld.raw at h
  obtain ⟨r1,_,h⟩:=Option.bind_eq_some_iff.1 h
  obtain ⟨r2,_,h⟩:=Option.bind_eq_some_iff.1 h
  obtain ⟨r3,h3,h⟩:=Option.bind_eq_some_iff.1 h
  rw [← Option.some.inj h,spec_l26World_d h3]
  exact wi_world _ _
theorem laws_FnErased.ok {x:TyTup [.sl .byte]} (_:bdTup [.sl .byte] x):laws_FnErased.raw x=some (always (α:=List UInt8) x):=by
  have hL:=LIM_is
  unfold laws_FnErased.raw
  simp only [always]
  cases hb:big x
  case true=>rfl
  rw [cond_false]
  have hb:List.length (α:=UInt8) x≤1048576:=by have:=of_decide_eq_false hb;omega
  obtain ⟨w,h1,w1⟩:=spec_DrawWorld_t hb
  obtain ⟨d,h2,w2⟩:=spec_DrawErased_t hb
  have hw:=drawWorld_wi h1
  have t1:w.Clients.length=2:=by have:=w1.2;simp only [N] at this;omega
  have ww:=wt_World w
  have wS:=wt_Server w.S
  have wT:=wt_Tab w.S.T
  rw [h1,bind_some',luckyO,pt_bind (by omega)]
  cases hl:lucky w.Notes
  case true=>rfl
  rw [cond_false]
  have er:∀ c:G.Chan,ChI w.Notes c→wt c≤400000000→∀ {f:Bool→Option Bool},(Option.bind (shownO w.Notes c.Sn) fun r=>cond (!r) (Option.bind (erasedO w.Notes c) fun q=>f (!q)) (f false))=f false:=fun c hc hcw f=>by
    have:=wt_Chan c
    rw [shownO,pt_bind ⟨by omega,by omega⟩,erasedO,pt_bind ⟨by omega,by omega⟩,erased_of hw.ns hc hl]
    cases shown w.Notes c.Sn <;> rfl
  simp only [joinK]
  refine loop_all 2 (by decide) _ (fun i k hi=>?_) (fun k=>?_)
  · have hi':i<w.Clients.length:=by omega
    have:=wt_get hi'
    have hc:=wt_Client w.Clients[i]
    rw [decide_eq_true (by omega),cond_true,idxI_get hi',bind_some']
    exact er _ (hw.cl _ (List.getElem_mem hi')) (by omega) (f:=fun b=>cond b (some false) (k _))
  rw [decide_eq_false (by decide),cond_false]
  refine loop_all w.S.T.L.length (len_lim (by omega)) _ (fun i k hi=>?_) (fun k=>?_)
  · have:=wt_get hi
    have hc:=wt_Sess w.S.T.L[i]
    rw [lt_true hi,cond_true,idxI_get hi,bind_some']
    exact er _ (hw.tb _ (List.getElem_mem hi)) (by omega) (f:=fun b=>cond b (some false) (k _))
  rw [lt_self,cond_false,h2,bind_some',erasedO,pt_bind ⟨by omega,by omega⟩,pt_bind ⟨by omega,by omega⟩,beq_self_eq_true]
end Go.D

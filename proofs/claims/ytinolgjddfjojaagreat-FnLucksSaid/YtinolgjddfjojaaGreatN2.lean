/-
  Sizes of the program's data.
-/
import Derived.Test.YtinolgjddfjojaaGreatN1
namespace Go.D
instance:Wt G.Win:=⟨fun x=>wt x.Bits⟩
theorem wt_Win (x:G.Win):wt x=wt x.Bits:=rfl
instance:Wt G.Ep:=⟨fun x=>wt x.Key+wt x.Win⟩
theorem wt_Ep (x:G.Ep):wt x=wt x.Key+wt x.Win:=rfl
instance:Wt G.Chan:=⟨fun x=>wt x.Sn+wt x.Cur+wt x.Old+wt x.Next⟩
theorem wt_Chan (x:G.Chan):wt x=wt x.Sn+wt x.Cur+wt x.Old+wt x.Next:=rfl
end Go.D
namespace Go.D
def addrOk (a:G.Addr):Bool:=inR a.Host 0 4294967295&&inR a.Port 0 65535
def isRole (n:Int):Bool:=n==0||n==1
def isNonce (b:List UInt8):Bool:=(b.length:Int)==12
def areWords (l:List Int) (n:Int):Bool:=(l.all fun e=>inR e 0 4294967295)&&(l.length:Int)==n
def bitAt (w:G.Win) (n:Nat):Bool:=(w.Bits[n % 1024 / 32]?).any fun e=>iand .i64 (ishr .i64 e ((n % 32:Nat):Int)) 1==1
noncomputable def bitO (w:G.Win) (n:Int):Option Bool:=pt (0≤n∧w.Bits.length=32) (bitAt w n.toNat)
def winOk (w:G.Win):Bool:=inR w.Top (-1) 281474976710655&&areWords w.Bits 32&&!(anyN 1024 fun i=>decide (w.Top<(i:Int))&&bitAt w i)&&(w.Top== -1||bitAt w w.Top.toNat)
def epOk (e:G.Ep):Bool:=inR e.N 0 4294967295&&(e.Key.length:Int)==32&&inR e.Seq 0 281474976710656&&winOk e.Win
def noEp (e:G.Ep):Bool:=e.N==0&&(e.Key.length:Int)==0&&e.Seq==0&&e.Win.Top==0&&(e.Win.Bits.length:Int)==0
def oldOk (c:G.Chan):Bool:=bif c.HasOld then epOk c.Old&&c.Old.N==isub .i64 c.Cur.N 1&&(inR c.Until 0 1000005||(c.Until== -1&&c.Role==1)) else noEp c.Old&&c.Until==0
def chanOk (c:G.Chan):Bool:=isRole c.Role&&isNonce c.Sn&&epOk c.Cur&&oldOk c&&((c.Next.length:Int)==0||(c.Role==0&&(c.Next.length:Int)==32&&decide (c.Cur.N<4294967295)))
noncomputable def chanOkO (c:G.Chan):Option Bool:=pt (wt c≤LIM) (chanOk c)
end Go.D
namespace Go.D
noncomputable def spec_l8Bit.raw (a0:G.Win) (a1:Int):Option Bool:=
  Option.bind (idxI a0.Bits (iquo .i64 (irem .i64 a1 1024) 32)) fun e1=>
  cond (decide ((irem .i64 (irem .i64 a1 1024) 32)<0)) none (let x2:Int:=ishr .i64 e1 (irem .i64 (irem .i64 a1 1024) 32)
  some ((iand .i64 x2 1)==1))
noncomputable def spec_WinOk.raw (a0:G.Win):Option Bool:=
  joinK (fun (y1:Bool)=>
  cond (y1)
  (some false)
  (joinK (fun (y4:Unit)=>
  joinK (fun (y9:Bool)=>
  cond (y9)
  (some false)
  (joinK (fun (y12:Unit)=>
  some true) fun k13=>
  loopK FU (fun (x14:Int) k15=>
  cond (decide (x14<1024))
  (Option.bind (bitO a0 x14) fun r16=>
  cond (r16)
  (some false)
  (k15 (iadd .i64 x14 1)))
  (k13 ())) (iadd .i64 a0.Top 1))) fun k10=>
  cond (decide (a0.Top≥0))
  (Option.bind (bitO a0 a0.Top) fun r11=>
  k10 (!r11))
  (k10 false)) fun k5=>
  loopK FU (fun (x6:Int) k7=>
  cond (decide (x6<32))
  (Option.bind (idxI a0.Bits x6) fun e8=>
  cond (!(inR e8 0 4294967295))
  (some false)
  (k7 (iadd .i64 x6 1)))
  (k5 ())) 0)) fun k2=>
  cond ((a0.Bits.length:Int) !=32)
  (k2 true)
  (let r3:Bool:=inR a0.Top (-1) 281474976710655
  k2 (!r3))
noncomputable def spec_EpOk.raw (a0:G.Ep):Option Bool:=
  joinK (fun (y1:Bool)=>
  some y1) fun k2=>
  cond ((inR a0.N 0 4294967295))
  (cond ((a0.Key.length:Int)==32)
  (cond ((inR a0.Seq 0 281474976710656))
  (k2 (winOk a0.Win))
  (k2 false))
  (k2 false))
  (k2 false)
noncomputable def spec_l14None.raw (a0:G.Ep):Option Bool:=
  joinK (fun (y1:Bool)=>
  some y1) fun k2=>
  cond (a0.N==0)
  (cond ((a0.Key.length:Int)==0)
  (cond (a0.Seq==0)
  (cond (a0.Win.Top==0)
  (k2 ((a0.Win.Bits.length:Int)==0))
  (k2 false))
  (k2 false))
  (k2 false))
  (k2 false)
noncomputable def spec_ChanOk.raw (a0:G.Chan):Option Bool:=
  joinK (fun (y1:Bool)=>
  cond (y1)
  (some false)
  (joinK (fun (y3:Unit)=>
  cond ((a0.Next.length:Int)==0)
  (some true)
  (joinK (fun (y11:Bool)=>
  some y11) fun k12=>
  cond (a0.Role==0)
  (cond ((a0.Next.length:Int)==32)
  (k12 (decide (a0.Cur.N<4294967295)))
  (k12 false))
  (k12 false))) fun k4=>
  cond (a0.HasOld)
  (joinK (fun (y5:Int)=>
  joinK (fun (y7:Bool)=>
  cond (y7)
  (some false)
  (k4 ())) fun k8=>
  cond (!(epOk a0.Old))
  (k8 true)
  (cond (a0.Old.N !=(isub .i64 a0.Cur.N 1))
  (k8 true)
  (k8 (!(inR a0.Until y5 1000005))))) fun k6=>
  cond (a0.Role==0)
  (k6 0)
  (k6 (-1)))
  (joinK (fun (y9:Bool)=>
  cond (y9)
  (some false)
  (k4 ())) fun k10=>
  cond (!(noEp a0.Old))
  (k10 true)
  (k10 (a0.Until !=0))))) fun k2=>
  cond (!(inR a0.Role 0 1))
  (k2 true)
  (cond ((a0.Sn.length:Int) !=12)
  (k2 true)
  (k2 (!(epOk a0.Cur))))
end Go.D
namespace Go.D
end Go.D
namespace Go.D
theorem addrOk_raw (a:G.Addr):joinK (R:=Bool) (fun (y:Bool)=>some y) (fun k=>cond (inR a.Host 0 4294967295) (k (inR a.Port 0 65535)) (k false))=some (addrOk a):=by
  simp only [joinK,addrOk]
  cases inR a.Host 0 4294967295 <;> rfl
theorem inR_iff {n lo hi:Int}:inR n lo hi=true↔lo≤n∧n≤hi:=by simp [inR]
theorem inR_not {n lo hi:Int}:inR n lo hi=false↔¬ (lo≤n∧n≤hi):=by
  rw [← inR_iff];cases inR n lo hi <;> simp
theorem areWords_loop (l:List Int) (hl:l.length≤maxLen) (z:Option Bool):loopK FU (fun (x3:Int) k4=>cond (decide (x3<(l.length:Int))) (Option.bind (idxI l x3) fun e5=>cond (!(inR e5 0 4294967295)) (some false) (k4 (iadd .i64 x3 1))) z) 0
    =bif l.all fun e=>inR e 0 4294967295 then z else some false:=by
  rw [loop_list l hl (fun e=>!(inR e 0 4294967295)) (some false) z (fun i k hi=>?_) (fun k=>by simp only [lt_end,cond_false])]
  · rw [List.all_eq_not_any_not];cases l.any _ <;> rfl
  · simp only [lt_len hi,cond_true,idxI_get hi,bind_some']
theorem bit_raw (w:G.Win) (n:Nat) (h:w.Bits.length=32) (hn:n≤maxLen) {b:Int} (hb:b=((n % 32:Nat):Int)):
    (Option.bind (idxI w.Bits (iquo .i64 (irem .i64 (n:Int) 1024) 32)) fun e1=>cond (decide (b<0)) none (some (iand .i64 (ishr .i64 e1 b) 1==1)))=some (bitAt w n):=by
  have e1:irem .i64 (n:Int) 1024=((n % 1024:Nat):Int):=irem_nat n 1024
  have e2:iquo .i64 ((n % 1024:Nat):Int) 32=((n % 1024 / 32:Nat):Int):=iquo_nat _ 32 (by omega) (by omega)
  have hi:n % 1024 / 32<w.Bits.length:=by omega
  have hz:decide (b<0)=false:=by rw [decide_eq_false_iff_not];omega
  rw [e1,e2,idxI_get hi,bind_some',hz,cond_false,bitAt,at_any hi,hb]
theorem irem32 (n:Nat):irem .i64 (n:Int) 32=((n % 32:Nat):Int):=irem_nat n 32
theorem int_nat {n:Int} (h:0≤n):∃ m:Nat,n=(m:Int):=Int.eq_ofNat_of_zero_le h
theorem bd_top {n:Int} (hb:bdx .int n):n≤9223372036854775807:=bdx_top hb
theorem spec_l8Bit.ok {x:TyTup [.v .Win, .v .int]} (hb:bdTup [.v .Win, .v .int] x) {r:Bool}:bitO x.1 x.2=some r→spec_l8Bit.raw x.1 x.2=some r:=pt_ok fun h=>by
  obtain ⟨w,n⟩:=x
  obtain ⟨m,hm⟩:=int_nat h.1
  have hm:n=(m:Int):=hm
  have h9:=bd_top hb.2
  have h9:(n:Int)≤9223372036854775807:=h9
  subst hm
  have e1:irem .i64 (m:Int) 1024=((m % 1024:Nat):Int):=irem_nat m 1024
  exact bit_raw (w:G.Win) m h.2 (by unfold maxLen;omega) (b:=irem .i64 (irem .i64 (m:Int) 1024) 32) (by rw [e1,irem32];congr 1;omega)
theorem bits_loop (w:G.Win) (h:w.Bits.length=32) (ht:inR w.Top (-1) 281474976710655=true) (z:Option Bool):
    loopK FU (fun (x6:Int) k7=>cond (decide (x6<1024)) (Option.bind (bitO w x6) fun r=>cond r (some false) (k7 (iadd .i64 x6 1))) z) (iadd .i64 w.Top 1)
    =bif anyN 1024 (fun i=>decide (w.Top<(i:Int))&&bitAt w i) then some false else z:=by
  have ht:=inR_iff.1 ht
  obtain ⟨a,ha⟩:=int_nat (n:=w.Top+1) (by omega)
  rw [iadd,wrap_i64 (by omega) (by omega),ha]
  rw [loop_anyF a 1024 (by decide) (bitAt w) (some false) z (fun i k hi=>?_) (fun i k hi=>?_)]
  · have e:anyN 1024 (fun i=>decide (a≤i)&&bitAt w i)=anyN 1024 (fun i=>decide (w.Top<(i:Int))&&bitAt w i):=anyN_congr fun i _=>by
      rw [show decide (w.Top<(i:Int))=decide (a≤i) from decide_eq_decide.2 (by omega)]
    rw [e]
  · rw [decide_eq_true (p:=(i:Int)<1024) (by omega),cond_true,bitO,pt_bind ⟨by omega,h⟩,Int.toNat_natCast]
  · rw [decide_eq_false (p:=(i:Int)<1024) (by omega),cond_false]
theorem all_words (l:List Int) (h:l.length=32) (z:Option Bool):loopK FU (fun (x6:Int) k7=>cond (decide (x6<32)) (Option.bind (idxI l x6) fun e8=>cond (!(inR e8 0 4294967295)) (some false) (k7 (iadd .i64 x6 1))) z) 0
    =bif l.all fun e=>inR e 0 4294967295 then z else some false:=by
  have:=areWords_loop l (by rw [h];decide) z
  simp only [h] at this
  exact this
theorem spec_WinOk.ok {x:TyTup [.v .Win]} (_:bdTup [.v .Win] x):spec_WinOk.raw x=some (winOk x):=by
  show spec_WinOk.raw (x:G.Win)=some (winOk (x:G.Win))
  generalize (show G.Win from x)=w
  simp only [spec_WinOk.raw,joinK,winOk,areWords]
  by_cases hl:w.Bits.length=32
  · have e1:((w.Bits.length:Int) !=32)=false:=by simp [hl]
    have e2:((w.Bits.length:Int)==32)=true:=by simp [hl]
    rw [e1,e2]
    cases ht:inR w.Top (-1) 281474976710655
    · rfl
    simp only [Bool.not_true,cond_false,Bool.and_true,Bool.true_and]
    rw [all_words _ hl]
    cases w.Bits.all _
    · rfl
    simp only [cond_true,Bool.true_and]
    rw [bits_loop w hl ht]
    have:=inR_iff.1 ht
    by_cases h0:0≤w.Top
    · have e3:decide (w.Top≥0)=true:=by simpa using h0
      have e4:(w.Top== -1)=false:=by simp;omega
      rw [e3,e4,bitO,cond_true,pt_bind ⟨h0,hl⟩]
      cases bitAt w w.Top.toNat <;> cases anyN 1024 _ <;> rfl
    · have e3:decide (w.Top≥0)=false:=by simpa using h0
      have e4:(w.Top== -1)=true:=by simp;omega
      rw [e3,e4]
      cases anyN 1024 _ <;> rfl
  · have e1:((w.Bits.length:Int) !=32)=true:=by simp;omega
    have e2:((w.Bits.length:Int)==32)=false:=by simp;omega
    rw [e1,e2]
    simp
theorem epOk_raw (e:G.Ep):(joinK (R:=Bool) (fun (y1:Bool)=>some y1) fun k2=>cond ((inR e.N 0 4294967295)) (cond ((e.Key.length:Int)==32) (cond ((inR e.Seq 0 281474976710656)) (k2 (winOk e.Win)) (k2 false)) (k2 false)) (k2 false))=some (epOk e):=by
  simp only [joinK,cond_some,Bool.cond_false_right,epOk]
  grind
theorem spec_EpOk.ok {x:TyTup [.v .Ep]} (_:bdTup [.v .Ep] x):spec_EpOk.raw x=some (epOk x):=epOk_raw x
theorem sameO_bind {β:Type} {a b:List UInt8} {f:Bool→Option β} (h1:wt a≤LIM) (h2:wt b≤LIM):Option.bind (sameO a b) f=f (a==b):=pt_bind ⟨h1,h2⟩
theorem spec_l14None.ok {x:TyTup [.v .Ep]} (_:bdTup [.v .Ep] x):spec_l14None.raw x=some (noEp x):=by
  show spec_l14None.raw (x:G.Ep)=some (noEp (x:G.Ep))
  generalize (show G.Ep from x)=e
  simp only [spec_l14None.raw,joinK,cond_some,Bool.cond_false_right,noEp]
  grind
theorem spec_ChanOk_raw (c:G.Chan):spec_ChanOk.raw c=some (chanOk c):=by
  have e1:inR c.Role 0 1=(c.Role==0||c.Role==1):=by rw [Bool.eq_iff_iff,inR_iff];simp;omega
  have e2:inR c.Until (-1) 1000005=(inR c.Until 0 1000005||c.Until== -1):=by rw [Bool.eq_iff_iff,Bool.or_eq_true,inR_iff,inR_iff];simp;omega
  simp only [spec_ChanOk.raw,joinK,chanOk,oldOk,isRole,isNonce,e1]
  by_cases h0:c.Role=0
  · simp only [h0]
    cases c.HasOld <;> simp [cond_some] <;> grind
  · by_cases h1:c.Role=1
    · simp only [h1]
      cases c.HasOld <;> simp [cond_some,e2] <;> grind
    · rw [beq_false_of_ne h0,beq_false_of_ne h1];rfl
theorem spec_ChanOk.ok {x:TyTup [.v .Chan]} (_:bdTup [.v .Chan] x) {r:Bool}:chanOkO x=some r→spec_ChanOk.raw x=some r:=pt_ok fun _=>spec_ChanOk_raw x
end Go.D

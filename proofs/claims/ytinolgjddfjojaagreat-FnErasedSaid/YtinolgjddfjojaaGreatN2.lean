/-
  Sizes of the program's data.
-/
import Derived.Test.YtinolgjddfjojaaGreatN1
namespace Go.D
instance:Wt G.Win:=⟨fun x=>wt x.Bits⟩
theorem wt_Win (x:G.Win):wt x=wt x.Bits:=rfl
instance:Wt G.Ep:=⟨fun x=>wt x.Key+wt x.Win⟩
theorem wt_Ep (x:G.Ep):wt x=wt x.Key+wt x.Win:=rfl
instance:Wt G.Chan:=⟨fun x=>wt x.Sn+wt x.Cur+wt x.Old+wt x.Next⟩
theorem wt_Chan (x:G.Chan):wt x=wt x.Sn+wt x.Cur+wt x.Old+wt x.Next:=rfl
end Go.D
namespace Go.D
noncomputable section
def addrOk (a:G.Addr):Bool:=inR a.Host 0 4294967295&&inR a.Port 0 65535
def isRole (n:Int):Bool:=n==0||n==1
def isNonce (b:List UInt8):Bool:=(b.length:Int)==12
def areWords (l:List Int) (n:Int):Bool:=(l.all fun e=>inR e 0 4294967295)&&(l.length:Int)==n
def bitAt (w:G.Win) (n:Nat):Bool:=(w.Bits[n % 1024 / 32]?).any fun e=>iand .i64 (ishr .i64 e ((n % 32:Nat):Int)) 1==1
def bitO (w:G.Win) (n:Int):Option Bool:=pt (0≤n∧w.Bits.length=32) (bitAt w n.toNat)
def winOk (w:G.Win):Bool:=inR w.Top (-1) 281474976710655&&areWords w.Bits 32&&!(anyN 1024 fun i=>decide (w.Top<(i:Int))&&bitAt w i)&&(w.Top== -1||bitAt w w.Top.toNat)
def sameI (a b:List Int):Bool:=a==b
def epOk (e:G.Ep):Bool:=inR e.N 0 4294967295&&(e.Key.length:Int)==32&&inR e.Seq 0 281474976710656&&winOk e.Win
def sameEp (a b:G.Ep):Bool:=a.N==b.N&&a.Key==b.Key&&a.Seq==b.Seq&&a.Win.Top==b.Win.Top&&a.Win.Bits==b.Win.Bits
def sameEpO (a b:G.Ep):Option Bool:=pt (wt a≤LIM∧wt b≤LIM) (sameEp a b)
def noEp (e:G.Ep):Bool:=e.N==0&&(e.Key.length:Int)==0&&e.Seq==0&&e.Win.Top==0&&(e.Win.Bits.length:Int)==0
def oldOk (c:G.Chan):Bool:=bif c.HasOld then epOk c.Old&&c.Old.N==isub .i64 c.Cur.N 1&&(inR c.Until 0 1000005||(c.Until== -1&&c.Role==1)) else noEp c.Old&&c.Until==0
def oldOkO (c:G.Chan):Option Bool:=pt (wt c≤LIM) (oldOk c)
def chanOk (c:G.Chan):Bool:=isRole c.Role&&isNonce c.Sn&&epOk c.Cur&&oldOk c&&((c.Next.length:Int)==0||(c.Role==0&&(c.Next.length:Int)==32&&decide (c.Cur.N<4294967295)))
def chanOkO (c:G.Chan):Option Bool:=pt (wt c≤LIM) (chanOk c)
def oldest (c:G.Chan):Int:=bif chanOk c then (bif c.HasOld then c.Old.N else c.Cur.N) else -1
def oldestO (c:G.Chan):Option Int:=pt (wt c≤LIM) (oldest c)
def kept (c:G.Chan) (n:G.Note):Bool:=isKey n&&n.Sn==c.Sn&&decide (n.Epoch<oldest c)&&(n.Key==c.Cur.Key||(c.HasOld&&n.Key==c.Old.Key))
def erased (l:List G.Note) (c:G.Chan):Bool:=!(l.any (kept c))
def erasedO (l:List G.Note) (c:G.Chan):Option Bool:=pt (wt l≤LIM∧wt c≤LIM) (erased l c)
end
end Go.D
namespace Go.D
noncomputable section
def spec_l8Bit.raw (a0:G.Win) (a1:Int):Option Bool:=
  Option.bind (idxI a0.Bits (iquo .i64 (irem .i64 a1 1024) 32)) fun e1=>
  cond (decide ((irem .i64 (irem .i64 a1 1024) 32)<0)) none (let x2:Int:=ishr .i64 e1 (irem .i64 (irem .i64 a1 1024) 32)
  some ((iand .i64 x2 1)==1))
def spec_WinOk.raw (a0:G.Win):Option Bool:=
  joinK (fun (y1:Bool)=>
  cond (y1)
  (some false)
  (joinK (fun (y4:Unit)=>
  joinK (fun (y9:Bool)=>
  cond (y9)
  (some false)
  (joinK (fun (y12:Unit)=>
  some true) fun k13=>
  loopK FU (fun (x14:Int) k15=>
  cond (decide (x14<1024))
  (Option.bind (bitO a0 x14) fun r16=>
  cond (r16)
  (some false)
  (k15 (iadd .i64 x14 1)))
  (k13 ())) (iadd .i64 a0.Top 1))) fun k10=>
  cond (decide (a0.Top≥0))
  (Option.bind (bitO a0 a0.Top) fun r11=>
  k10 (!r11))
  (k10 false)) fun k5=>
  loopK FU (fun (x6:Int) k7=>
  cond (decide (x6<32))
  (Option.bind (idxI a0.Bits x6) fun e8=>
  cond (!(inR e8 0 4294967295))
  (some false)
  (k7 (iadd .i64 x6 1)))
  (k5 ())) 0)) fun k2=>
  cond ((a0.Bits.length:Int) !=32)
  (k2 true)
  (let r3:Bool:=inR a0.Top (-1) 281474976710655
  k2 (!r3))
def spec_EpOk.raw (a0:G.Ep):Option Bool:=
  joinK (fun (y1:Bool)=>
  some y1) fun k2=>
  cond ((inR a0.N 0 4294967295))
  (cond ((a0.Key.length:Int)==32)
  (cond ((inR a0.Seq 0 281474976710656))
  (k2 (winOk a0.Win))
  (k2 false))
  (k2 false))
  (k2 false)
def spec_l14None.raw (a0:G.Ep):Option Bool:=
  joinK (fun (y1:Bool)=>
  some y1) fun k2=>
  cond (a0.N==0)
  (cond ((a0.Key.length:Int)==0)
  (cond (a0.Seq==0)
  (cond (a0.Win.Top==0)
  (k2 ((a0.Win.Bits.length:Int)==0))
  (k2 false))
  (k2 false))
  (k2 false))
  (k2 false)
def spec_ChanOk.raw (a0:G.Chan):Option Bool:=
  joinK (fun (y1:Bool)=>
  cond (y1)
  (some false)
  (joinK (fun (y3:Unit)=>
  cond ((a0.Next.length:Int)==0)
  (some true)
  (joinK (fun (y11:Bool)=>
  some y11) fun k12=>
  cond (a0.Role==0)
  (cond ((a0.Next.length:Int)==32)
  (k12 (decide (a0.Cur.N<4294967295)))
  (k12 false))
  (k12 false))) fun k4=>
  cond (a0.HasOld)
  (joinK (fun (y5:Int)=>
  joinK (fun (y7:Bool)=>
  cond (y7)
  (some false)
  (k4 ())) fun k8=>
  cond (!(epOk a0.Old))
  (k8 true)
  (cond (a0.Old.N !=(isub .i64 a0.Cur.N 1))
  (k8 true)
  (k8 (!(inR a0.Until y5 1000005))))) fun k6=>
  cond (a0.Role==0)
  (k6 0)
  (k6 (-1)))
  (joinK (fun (y9:Bool)=>
  cond (y9)
  (some false)
  (k4 ())) fun k10=>
  cond (!(noEp a0.Old))
  (k10 true)
  (k10 (a0.Until !=0))))) fun k2=>
  cond (!(inR a0.Role 0 1))
  (k2 true)
  (cond ((a0.Sn.length:Int) !=12)
  (k2 true)
  (k2 (!(epOk a0.Cur))))
def spec_Oldest.raw (a0:G.Chan):Option Int:=
  Option.bind (chanOkO a0) fun r1=>
  cond (!r1)
  (some (-1))
  (cond (a0.HasOld)
  (some a0.Old.N)
  (some a0.Cur.N))
def spec_Erased.raw (a0:List G.Note) (a1:G.Chan):Option Bool:=
  Option.bind (oldestO a1) fun r1=>
  joinK (fun (y2:Unit)=>
  some true) fun k3=>
  loopK FU (fun (x4:Int) k5=>
  cond (decide (x4<(a0.length:Int)))
  (joinK (fun (y6:Unit)=>
  k5 (iadd .i64 x4 1)) fun k7=>
  Option.bind (idxI a0 x4) fun e8=>
  joinK (fun (y9:Bool)=>
  cond (y9)
  (k7 ())
  (joinK (fun (y12:Bool)=>
  cond (y12)
  (some false)
  (k7 ())) fun k13=>
  Option.bind (sameO e8.Key a1.Cur.Key) fun r14=>
  cond (r14)
  (k13 true)
  (cond (a1.HasOld)
  (Option.bind (sameO e8.Key a1.Old.Key) fun r15=>
  k13 r15)
  (k13 false)))) fun k10=>
  cond (!(isKey e8))
  (k10 true)
  (Option.bind (sameO e8.Sn a1.Sn) fun r11=>
  cond (!r11)
  (k10 true)
  (k10 (decide (e8.Epoch≥r1)))))
  (k3 ())) 0
def impl_isRole.raw (a0:Int):Option Bool:=
  joinK (fun (y1:Bool)=>
  some y1) fun k2=>
  cond (a0==0)
  (k2 true)
  (k2 (a0==1))
def impl_isNonce.raw (a0:List UInt8):Option Bool:=
  some ((a0.length:Int)==12)
def impl_areWords.raw (a0:List Int) (a1:Int):Option Bool:=
  joinK (fun (y1:Unit)=>
  some ((a0.length:Int)==a1)) fun k2=>
  loopK FU (fun (x3:Int) k4=>
  cond (decide (x3<(a0.length:Int)))
  (Option.bind (idxI a0 x3) fun e5=>
  cond (!(inR e5 0 4294967295))
  (some false)
  (k4 (iadd .i64 x3 1)))
  (k2 ())) 0
def impl_hasBit.raw (a0:G.Win) (a1:Int):Option Bool:=
  Option.bind (idxI a0.Bits (iquo .i64 (irem .i64 a1 1024) 32)) fun e1=>
  cond (decide ((irem .i64 a1 32)<0)) none (let x2:Int:=iand .i64 (ishr .i64 e1 (irem .i64 a1 32)) 1
  some (x2==1))
def impl_WinOk.raw (a0:G.Win):Option Bool:=
  joinK (fun (y1:Bool)=>
  cond (y1)
  (some false)
  (joinK (fun (y4:Unit)=>
  joinK (fun (y9:Bool)=>
  some y9) fun k10=>
  cond (a0.Top==(-1))
  (k10 true)
  (Option.bind (bitO a0 a0.Top) fun r11=>
  k10 r11)) fun k5=>
  loopK FU (fun (x6:Int) k7=>
  cond (decide (x6<1024))
  (Option.bind (bitO a0 x6) fun r8=>
  cond (r8)
  (some false)
  (k7 (iadd .i64 x6 1)))
  (k5 ())) (iadd .i64 a0.Top 1))) fun k2=>
  let r3:Bool:=inR a0.Top (-1) 281474976710655
  cond (!r3)
  (k2 true)
  (k2 (!(areWords a0.Bits 32)))
def impl_EpOk.raw (a0:G.Ep):Option Bool:=
  joinK (fun (y1:Bool)=>
  some y1) fun k2=>
  cond ((inR a0.N 0 4294967295))
  (cond ((a0.Key.length:Int)==32)
  (cond ((inR a0.Seq 0 281474976710656))
  (k2 (winOk a0.Win))
  (k2 false))
  (k2 false))
  (k2 false)
def impl_sameInts.raw (a0:List Int) (a1:List Int):Option Bool:=
  cond ((a0.length:Int) !=(a1.length:Int))
  (some false)
  (joinK (fun (y1:Unit)=>
  some true) fun k2=>
  loopK FU (fun (x3:Int) k4=>
  cond (decide (x3<(a0.length:Int)))
  (Option.bind (idxI a0 x3) fun e5=>
  Option.bind (idxI a1 x3) fun e6=>
  cond (e5 !=e6)
  (some false)
  (k4 (iadd .i64 x3 1)))
  (k2 ())) 0)
def impl_sameEp.raw (a0:G.Ep) (a1:G.Ep):Option Bool:=
  joinK (fun (y1:Bool)=>
  some y1) fun k2=>
  cond (a0.N==a1.N)
  (Option.bind (sameO a0.Key a1.Key) fun r3=>
  cond (r3)
  (cond (a0.Seq==a1.Seq)
  (cond (a0.Win.Top==a1.Win.Top)
  (k2 (sameI a0.Win.Bits a1.Win.Bits))
  (k2 false))
  (k2 false))
  (k2 false))
  (k2 false)
def impl_oldOk.raw (a0:G.Chan):Option Bool:=
  cond (!a0.HasOld)
  (joinK (fun (y1:Bool)=>
  some y1) fun k2=>
  Option.bind (sameEpO a0.Old (⟨0,[],0,(⟨0,[]⟩:G.Win)⟩:G.Ep)) fun r3=>
  cond (r3)
  (k2 (a0.Until==0))
  (k2 false))
  (joinK (fun (y4:Bool)=>
  cond (y4)
  (some false)
  (joinK (fun (y6:Bool)=>
  some y6) fun k7=>
  cond ((inR a0.Until 0 1000005))
  (k7 true)
  (cond (a0.Until==(-1))
  (k7 (a0.Role==1))
  (k7 false)))) fun k5=>
  cond (!(epOk a0.Old))
  (k5 true)
  (k5 (a0.Old.N !=(isub .i64 a0.Cur.N 1))))
def impl_ChanOk.raw (a0:G.Chan):Option Bool:=
  joinK (fun (y1:Bool)=>
  cond (y1)
  (some false)
  (joinK (fun (y4:Bool)=>
  some y4) fun k5=>
  cond ((a0.Next.length:Int)==0)
  (k5 true)
  (cond (a0.Role==0)
  (cond ((a0.Next.length:Int)==32)
  (k5 (decide (a0.Cur.N<4294967295)))
  (k5 false))
  (k5 false)))) fun k2=>
  cond (!(isRole a0.Role))
  (k2 true)
  (cond (!(isNonce a0.Sn))
  (k2 true)
  (cond (!(epOk a0.Cur))
  (k2 true)
  (Option.bind (oldOkO a0) fun r3=>
  k2 (!r3))))
def impl_Oldest.raw (a0:G.Chan):Option Int:=
  Option.bind (chanOkO a0) fun r1=>
  cond (!r1)
  (some (-1))
  (cond (a0.HasOld)
  (some a0.Old.N)
  (some a0.Cur.N))
def impl_Erased.raw (a0:List G.Note) (a1:G.Chan):Option Bool:=
  joinK (fun (y1:Unit)=>
  some true) fun k2=>
  loopK FU (fun (x3:Int) k4=>
  cond (decide (x3<(a0.length:Int)))
  (joinK (fun (y5:Unit)=>
  k4 (iadd .i64 x3 1)) fun k6=>
  Option.bind (idxI a0 x3) fun e7=>
  joinK (fun (y8:Bool)=>
  cond (y8)
  (k6 ())
  (joinK (fun (y10:Bool)=>
  cond (y10)
  (k6 ())
  (joinK (fun (y14:Bool)=>
  cond (y14)
  (some false)
  (k6 ())) fun k15=>
  Option.bind (sameO e7.Key a1.Cur.Key) fun r16=>
  cond (r16)
  (k15 true)
  (cond (a1.HasOld)
  (Option.bind (sameO e7.Key a1.Old.Key) fun r17=>
  k15 r17)
  (k15 false)))) fun k11=>
  Option.bind (sameO e7.Sn a1.Sn) fun r12=>
  cond (!r12)
  (k11 true)
  (Option.bind (oldestO a1) fun r13=>
  k11 (decide (e7.Epoch≥r13))))) fun k9=>
  cond (e7.Kind !=3)
  (cond (e7.Kind !=4)
  (k9 (e7.Kind !=10))
  (k9 false))
  (k9 false))
  (k2 ())) 0
end
end Go.D
namespace Go.D
end Go.D
namespace Go.D
theorem addrOk_raw (a:G.Addr):joinK (R:=Bool) (fun (y:Bool)=>some y) (fun k=>cond (inR a.Host 0 4294967295) (k (inR a.Port 0 65535)) (k false))=some (addrOk a):=by
  simp only [joinK,addrOk]
  cases inR a.Host 0 4294967295 <;> rfl
theorem inR_iff {n lo hi:Int}:inR n lo hi=true↔lo≤n∧n≤hi:=by simp [inR]
theorem inR_not {n lo hi:Int}:inR n lo hi=false↔¬ (lo≤n∧n≤hi):=by
  rw [← inR_iff];cases inR n lo hi <;> simp
theorem impl_isRole.ok {x:TyTup [.v .int]} (_:bdTup [.v .int] x):impl_isRole.raw x=some (isRole x):=by
  simp only [impl_isRole.raw,joinK,cond_some,Bool.cond_true_left];rfl
theorem impl_isNonce.ok {x:TyTup [.sl .byte]} (_:bdTup [.sl .byte] x):impl_isNonce.raw x=some (isNonce x):=rfl
theorem areWords_loop (l:List Int) (hl:l.length≤maxLen) (z:Option Bool):loopK FU (fun (x3:Int) k4=>cond (decide (x3<(l.length:Int))) (Option.bind (idxI l x3) fun e5=>cond (!(inR e5 0 4294967295)) (some false) (k4 (iadd .i64 x3 1))) z) 0
    =bif l.all fun e=>inR e 0 4294967295 then z else some false:=by
  rw [loop_list l hl (fun e=>!(inR e 0 4294967295)) (some false) z (fun i k hi=>?_) (fun k=>by simp only [lt_end,cond_false])]
  · rw [List.all_eq_not_any_not];cases l.any _ <;> rfl
  · simp only [lt_len hi,cond_true,idxI_get hi,bind_some']
theorem impl_areWords.ok {x:TyTup [.sl .int, .v .int]} (hb:bdTup [.sl .int, .v .int] x):impl_areWords.raw x.1 x.2=some (areWords x.1 x.2):=by
  simp only [impl_areWords.raw,joinK]
  rw [areWords_loop (show List Int from x.1) hb.1.1,areWords]
  cases List.all _ _ <;> rfl
theorem bit_raw (w:G.Win) (n:Nat) (h:w.Bits.length=32) (hn:n≤maxLen) {b:Int} (hb:b=((n % 32:Nat):Int)):
    (Option.bind (idxI w.Bits (iquo .i64 (irem .i64 (n:Int) 1024) 32)) fun e1=>cond (decide (b<0)) none (some (iand .i64 (ishr .i64 e1 b) 1==1)))=some (bitAt w n):=by
  have e1:irem .i64 (n:Int) 1024=((n % 1024:Nat):Int):=irem_nat n 1024
  have e2:iquo .i64 ((n % 1024:Nat):Int) 32=((n % 1024 / 32:Nat):Int):=iquo_nat _ 32 (by omega) (by omega)
  have hi:n % 1024 / 32<w.Bits.length:=by omega
  have hz:decide (b<0)=false:=by rw [decide_eq_false_iff_not];omega
  rw [e1,e2,idxI_get hi,bind_some',hz,cond_false,bitAt,at_any hi,hb]
theorem irem32 (n:Nat):irem .i64 (n:Int) 32=((n % 32:Nat):Int):=irem_nat n 32
theorem int_nat {n:Int} (h:0≤n):∃ m:Nat,n=(m:Int):=Int.eq_ofNat_of_zero_le h
theorem bd_top {n:Int} (hb:bdx .int n):n≤9223372036854775807:=bdx_top hb
theorem impl_hasBit.ok {x:TyTup [.v .Win, .v .int]} (hb:bdTup [.v .Win, .v .int] x) {r:Bool}:bitO x.1 x.2=some r→impl_hasBit.raw x.1 x.2=some r:=pt_ok fun h=>by
  obtain ⟨w,n⟩:=x
  obtain ⟨m,hm⟩:=int_nat h.1
  have hm:n=(m:Int):=hm
  have h9:=bd_top hb.2
  have h9:(n:Int)≤9223372036854775807:=h9
  subst hm
  exact bit_raw (w:G.Win) m h.2 (by unfold maxLen;omega) (irem32 m)
theorem spec_l8Bit.ok {x:TyTup [.v .Win, .v .int]} (hb:bdTup [.v .Win, .v .int] x) {r:Bool}:bitO x.1 x.2=some r→spec_l8Bit.raw x.1 x.2=some r:=pt_ok fun h=>by
  obtain ⟨w,n⟩:=x
  obtain ⟨m,hm⟩:=int_nat h.1
  have hm:n=(m:Int):=hm
  have h9:=bd_top hb.2
  have h9:(n:Int)≤9223372036854775807:=h9
  subst hm
  have e1:irem .i64 (m:Int) 1024=((m % 1024:Nat):Int):=irem_nat m 1024
  exact bit_raw (w:G.Win) m h.2 (by unfold maxLen;omega) (b:=irem .i64 (irem .i64 (m:Int) 1024) 32) (by rw [e1,irem32];congr 1;omega)
theorem bits_loop (w:G.Win) (h:w.Bits.length=32) (ht:inR w.Top (-1) 281474976710655=true) (z:Option Bool):
    loopK FU (fun (x6:Int) k7=>cond (decide (x6<1024)) (Option.bind (bitO w x6) fun r=>cond r (some false) (k7 (iadd .i64 x6 1))) z) (iadd .i64 w.Top 1)
    =bif anyN 1024 (fun i=>decide (w.Top<(i:Int))&&bitAt w i) then some false else z:=by
  have ht:=inR_iff.1 ht
  obtain ⟨a,ha⟩:=int_nat (n:=w.Top+1) (by omega)
  rw [iadd,wrap_i64 (by omega) (by omega),ha]
  rw [loop_anyF a 1024 (by decide) (bitAt w) (some false) z (fun i k hi=>?_) (fun i k hi=>?_)]
  · have e:anyN 1024 (fun i=>decide (a≤i)&&bitAt w i)=anyN 1024 (fun i=>decide (w.Top<(i:Int))&&bitAt w i):=anyN_congr fun i _=>by
      rw [show decide (w.Top<(i:Int))=decide (a≤i) from decide_eq_decide.2 (by omega)]
    rw [e]
  · rw [decide_eq_true (p:=(i:Int)<1024) (by omega),cond_true,bitO,pt_bind ⟨by omega,h⟩,Int.toNat_natCast]
  · rw [decide_eq_false (p:=(i:Int)<1024) (by omega),cond_false]
theorem impl_WinOk.ok {x:TyTup [.v .Win]} (_:bdTup [.v .Win] x):impl_WinOk.raw x=some (winOk x):=by
  show impl_WinOk.raw (x:G.Win)=some (winOk (x:G.Win))
  generalize (show G.Win from x)=w
  simp only [impl_WinOk.raw,joinK,winOk]
  cases ht:inR w.Top (-1) 281474976710655
  · rfl
  cases hw:areWords w.Bits 32
  · rfl
  have hl:w.Bits.length=32:=by
    rw [areWords,Bool.and_eq_true,beq_iff_eq] at hw;omega
  simp only [Bool.not_true,cond_false]
  rw [bits_loop w hl ht]
  cases anyN 1024 _
  · simp only [cond_false,Bool.not_false,Bool.true_and]
    cases hT:w.Top== -1
    · simp only [cond_false,Bool.false_or]
      have:=inR_iff.1 ht
      have h1:w.Top≠ -1:=by simpa using hT
      rw [bitO,pt_bind ⟨by omega,hl⟩]
    · rfl
  · rfl
theorem all_words (l:List Int) (h:l.length=32) (z:Option Bool):loopK FU (fun (x6:Int) k7=>cond (decide (x6<32)) (Option.bind (idxI l x6) fun e8=>cond (!(inR e8 0 4294967295)) (some false) (k7 (iadd .i64 x6 1))) z) 0
    =bif l.all fun e=>inR e 0 4294967295 then z else some false:=by
  have:=areWords_loop l (by rw [h];decide) z
  simp only [h] at this
  exact this
theorem spec_WinOk.ok {x:TyTup [.v .Win]} (_:bdTup [.v .Win] x):spec_WinOk.raw x=some (winOk x):=by
  show spec_WinOk.raw (x:G.Win)=some (winOk (x:G.Win))
  generalize (show G.Win from x)=w
  simp only [spec_WinOk.raw,joinK,winOk,areWords]
  by_cases hl:w.Bits.length=32
  · have e1:((w.Bits.length:Int) !=32)=false:=by simp [hl]
    have e2:((w.Bits.length:Int)==32)=true:=by simp [hl]
    rw [e1,e2]
    cases ht:inR w.Top (-1) 281474976710655
    · rfl
    simp only [Bool.not_true,cond_false,Bool.and_true,Bool.true_and]
    rw [all_words _ hl]
    cases w.Bits.all _
    · rfl
    simp only [cond_true,Bool.true_and]
    rw [bits_loop w hl ht]
    have:=inR_iff.1 ht
    by_cases h0:0≤w.Top
    · have e3:decide (w.Top≥0)=true:=by simpa using h0
      have e4:(w.Top== -1)=false:=by simp;omega
      rw [e3,e4,bitO,cond_true,pt_bind ⟨h0,hl⟩]
      cases bitAt w w.Top.toNat <;> cases anyN 1024 _ <;> rfl
    · have e3:decide (w.Top≥0)=false:=by simpa using h0
      have e4:(w.Top== -1)=true:=by simp;omega
      rw [e3,e4]
      cases anyN 1024 _ <;> rfl
  · have e1:((w.Bits.length:Int) !=32)=true:=by simp;omega
    have e2:((w.Bits.length:Int)==32)=false:=by simp;omega
    rw [e1,e2]
    simp
theorem epOk_raw (e:G.Ep):(joinK (R:=Bool) (fun (y1:Bool)=>some y1) fun k2=>cond ((inR e.N 0 4294967295)) (cond ((e.Key.length:Int)==32) (cond ((inR e.Seq 0 281474976710656)) (k2 (winOk e.Win)) (k2 false)) (k2 false)) (k2 false))=some (epOk e):=by
  simp only [joinK,cond_some,Bool.cond_false_right,epOk]
  grind
theorem impl_EpOk.ok {x:TyTup [.v .Ep]} (_:bdTup [.v .Ep] x):impl_EpOk.raw x=some (epOk x):=epOk_raw x
theorem spec_EpOk.ok {x:TyTup [.v .Ep]} (_:bdTup [.v .Ep] x):spec_EpOk.raw x=some (epOk x):=epOk_raw x
theorem impl_sameInts.ok {x:TyTup [.sl .int, .sl .int]} (hb:bdTup [.sl .int, .sl .int] x):impl_sameInts.raw x.1 x.2=some (sameI x.1 x.2):=
  (cmp_list (α:=Int) x.1 x.2 hb.1.1 _ ne_int).trans (congrArg some (eqq_beq _ _))
theorem sameO_bind {β:Type} {a b:List UInt8} {f:Bool→Option β} (h1:wt a≤LIM) (h2:wt b≤LIM):Option.bind (sameO a b) f=f (a==b):=pt_bind ⟨h1,h2⟩
theorem impl_sameEp_raw (a b:G.Ep) (h:wt a≤LIM∧wt b≤LIM):impl_sameEp.raw a b=some (sameEp a b):=by
  simp only [wt_Ep] at h
  simp (disch:=omega) only [impl_sameEp.raw,joinK,sameO_bind,cond_some,Bool.cond_false_right,sameEp,sameI]
  grind
theorem impl_sameEp.ok {x:TyTup [.v .Ep, .v .Ep]} (_:bdTup [.v .Ep, .v .Ep] x) {r:Bool}:sameEpO x.1 x.2=some r→impl_sameEp.raw x.1 x.2=some r:=pt_ok fun h=>impl_sameEp_raw x.1 x.2 h
theorem len0 {α:Type} (l:List α):((l.length:Int)==0)=l.isEmpty:=by cases l <;> simp;omega
theorem same_ep0 (e:G.Ep):sameEp e (⟨0,[],0,(⟨0,[]⟩:G.Win)⟩:G.Ep)=noEp e:=by
  simp only [sameEp,noEp,len0]
  cases e.Key <;> cases e.Win.Bits <;> rfl
theorem wt_ep0:wt (⟨0,[],0,(⟨0,[]⟩:G.Win)⟩:G.Ep)≤LIM:=Nat.zero_le _
theorem spec_l14None.ok {x:TyTup [.v .Ep]} (_:bdTup [.v .Ep] x):spec_l14None.raw x=some (noEp x):=by
  show spec_l14None.raw (x:G.Ep)=some (noEp (x:G.Ep))
  generalize (show G.Ep from x)=e
  simp only [spec_l14None.raw,joinK,cond_some,Bool.cond_false_right,noEp]
  grind
theorem impl_oldOk_raw (c:G.Chan) (h:wt c≤LIM):impl_oldOk.raw c=some (oldOk c):=by
  rw [wt_Chan] at h
  simp only [impl_oldOk.raw,joinK,sameEpO,pt_bind (p:=wt c.Old≤LIM∧wt (⟨0,[],0,(⟨0,[]⟩:G.Win)⟩:G.Ep)≤LIM) ⟨by omega,wt_ep0⟩,same_ep0,oldOk,cond_some]
  grind
theorem impl_oldOk.ok {x:TyTup [.v .Chan]} (_:bdTup [.v .Chan] x) {r:Bool}:oldOkO x=some r→impl_oldOk.raw x=some r:=pt_ok fun h=>impl_oldOk_raw x h
theorem impl_ChanOk_raw (c:G.Chan) (h:wt c≤LIM):impl_ChanOk.raw c=some (chanOk c):=by
  simp only [impl_ChanOk.raw,joinK,oldOkO,pt_bind h,chanOk,cond_some]
  grind
theorem impl_ChanOk.ok {x:TyTup [.v .Chan]} (_:bdTup [.v .Chan] x) {r:Bool}:chanOkO x=some r→impl_ChanOk.raw x=some r:=pt_ok fun h=>impl_ChanOk_raw x h
theorem spec_ChanOk_raw (c:G.Chan):spec_ChanOk.raw c=some (chanOk c):=by
  have e1:inR c.Role 0 1=(c.Role==0||c.Role==1):=by rw [Bool.eq_iff_iff,inR_iff];simp;omega
  have e2:inR c.Until (-1) 1000005=(inR c.Until 0 1000005||c.Until== -1):=by rw [Bool.eq_iff_iff,Bool.or_eq_true,inR_iff,inR_iff];simp;omega
  simp only [spec_ChanOk.raw,joinK,chanOk,oldOk,isRole,isNonce,e1]
  by_cases h0:c.Role=0
  · simp only [h0]
    cases c.HasOld <;> simp [cond_some] <;> grind
  · by_cases h1:c.Role=1
    · simp only [h1]
      cases c.HasOld <;> simp [cond_some,e2] <;> grind
    · rw [beq_false_of_ne h0,beq_false_of_ne h1];rfl
theorem spec_ChanOk.ok {x:TyTup [.v .Chan]} (_:bdTup [.v .Chan] x) {r:Bool}:chanOkO x=some r→spec_ChanOk.raw x=some r:=pt_ok fun _=>spec_ChanOk_raw x
theorem oldest_raw (c:G.Chan) (h:wt c≤LIM):(Option.bind (chanOkO c) fun r=>cond (!r) (some (-1)) (cond c.HasOld (some c.Old.N) (some c.Cur.N)))=some (oldest c):=by
  simp only [chanOkO,pt_bind h,oldest]
  cases chanOk c <;> cases c.HasOld <;> rfl
theorem impl_Oldest.ok {x:TyTup [.v .Chan]} (_:bdTup [.v .Chan] x) {r:Int}:oldestO x=some r→impl_Oldest.raw x=some r:=pt_ok fun h=>oldest_raw x h
theorem spec_Oldest.ok {x:TyTup [.v .Chan]} (_:bdTup [.v .Chan] x) {r:Int}:oldestO x=some r→spec_Oldest.raw x=some r:=pt_ok fun h=>oldest_raw x h
theorem impl_Erased_raw (l:List G.Note) (c:G.Chan) (hl:l.length≤maxLen) (h:wt l≤LIM∧wt c≤LIM):impl_Erased.raw l c=some (erased l c):=by
  have hc:=h.2
  simp only [wt_Chan,wt_Ep] at hc
  simp only [impl_Erased.raw,joinK,erased]
  rw [loop_list l hl (kept c) (some false) (some true) (fun i k hi=>?_) (fun k=>by simp only [lt_end,cond_false])]
  · cases l.any _ <;> rfl
  · have hw:=note_wt h.1 hi
    simp only [lt_len hi,cond_true,idxI_get hi,bind_some',oldestO,pt_bind h.2]
    simp (disch:=omega) only [sameO_bind]
    simp only [kept,isKey,isUp]
    generalize l[i]=n
    grind
theorem impl_Erased.ok {x:TyTup [.sl .Note, .v .Chan]} (hb:bdTup [.sl .Note, .v .Chan] x) {r:Bool}:erasedO x.1 x.2=some r→impl_Erased.raw x.1 x.2=some r:=pt_ok fun h=>impl_Erased_raw x.1 x.2 hb.1.1 h
theorem spec_Erased_raw (l:List G.Note) (c:G.Chan) (hl:l.length≤maxLen) (h:wt l≤LIM∧wt c≤LIM):spec_Erased.raw l c=some (erased l c):=by
  have hc:=h.2
  simp only [wt_Chan,wt_Ep] at hc
  simp only [spec_Erased.raw,joinK,erased,oldestO,pt_bind h.2,bind_some']
  rw [loop_list l hl (kept c) (some false) (some true) (fun i k hi=>?_) (fun k=>by simp only [lt_end,cond_false])]
  · cases l.any _ <;> rfl
  · have hw:=note_wt h.1 hi
    simp only [lt_len hi,cond_true,idxI_get hi,bind_some',oldestO,pt_bind h.2]
    simp (disch:=omega) only [sameO_bind]
    simp only [kept]
    generalize l[i]=n
    grind
theorem spec_Erased.ok {x:TyTup [.sl .Note, .v .Chan]} (hb:bdTup [.sl .Note, .v .Chan] x) {r:Bool}:erasedO x.1 x.2=some r→spec_Erased.raw x.1 x.2=some r:=pt_ok fun h=>spec_Erased_raw x.1 x.2 hb.1.1 h
end Go.D

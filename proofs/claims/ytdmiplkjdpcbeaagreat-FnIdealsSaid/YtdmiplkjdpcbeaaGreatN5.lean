/-
 Sizes of the program's data.
-/
import Derived.Test.YtdmiplkjdpcbeaaGreatN4
namespace Go.D
end Go.D
namespace Go.D
def zdL:G.Cand:=⟨⟨0,0⟩,[],0⟩
noncomputable def gI (c:G.Cand):Option G.Cand:=pt (wt c≤bA) c
def kQ (p:G.Paths) (a:G.Addr):G.Cand × Bool:=bif sD p then (match p.Cands.find? fun e=>MC e.A a with
 | some e=>(e,true)
 | none=>(zdL,false)) else (zdL,false)
noncomputable def lQ (p:G.Paths) (a:G.Addr):Option (G.Cand × Bool):=pt (wt p≤bA) (kQ p a)
end Go.D
namespace Go.D
noncomputable section
def bU.raw (a0:G.Cand):Option G.Cand:=
 cond (decide (([]:List UInt8).length+a0.Draw.length≤bA)) (some (⟨a0.A,[]++a0.Draw,a0.Until⟩:G.Cand)) none
def rL.raw (a0:G.Paths) (a1:G.Addr):Option (G.Cand × Bool):=
 cond (!(sD a0))
 (some ((⟨(⟨0,0⟩:G.Addr),[],0⟩:G.Cand),false))
 (aA (fun (y1:G.Cand)=>
 some ((⟨(⟨0,0⟩:G.Addr),[],0⟩:G.Cand),false)) fun k2=>
 tA FU (fun (x3:Int × G.Cand) k4=>
 cond (decide (x3.1<(a0.Cands.length:Int)))
 (Option.bind (pA a0.Cands x3.1) fun e5=>
 let x6:Bool:=cond (e5.A.Host==a1.Host) (cond (e5.A.Port==a1.Port) (true) false) false
 cond (x6)
 (Option.bind (pA a0.Cands x3.1) fun e7=>
 Option.bind (gI e7) fun r8=>
 some (r8,true))
 (k4 ((cA .i64 x3.1 1),x3.2)))
 (k2 x3.2)) (0,(⟨(⟨0,0⟩:G.Addr),[],0⟩:G.Cand)))
def dU.raw (a0:List G.Credit) (a1:G.Addr):Option Int:=
 aA (fun (y1:Unit)=>
 some (-1)) fun k2=>
 tA FU (fun (x3:Int) k4=>
 cond (decide (x3<(a0.length:Int)))
 (Option.bind (pA a0 x3) fun e5=>
 let x6:Bool:=cond (e5.A.Host==a1.Host) (cond (e5.A.Port==a1.Port) (true) false) false
 cond (x6)
 (some x3)
 (k4 (cA .i64 x3 1)))
 (k2 ())) 0
end
end Go.D
namespace Go.D
end Go.D
namespace Go.D
theorem dU.ok {x:lA [.sl .Credit, .v .Addr]} (hb:rA [.sl .Credit, .v .Addr] x):dU.raw x.1 x.2=some (BB x.1 x.2):=zdK x.1 x.2 hb.1.1
theorem RM {a:Nat} (h:a≤bA):decide (([]:List UInt8).length+a≤bA)=true:=decide_eq_true (by simpa using h)
theorem bU.ok {x:lA [.v .Cand]} (_:rA [.v .Cand] x) {r:G.Cand}:gI x=some r→bU.raw x=some r:=HA fun h=>by
 have h:wt (show G.Cand from x)≤bA:=h
 rw [zcj] at h
 have h2:=LA (show G.Cand from x).Draw
 show (cond (decide (([]:List UInt8).length+(show G.Cand from x).Draw.length≤bA)) _ _)=_
 rw [RM (by omega)];rfl
theorem zj4 {p:G.Paths} (h:wt p≤bA) {i:Nat} (hi:i<p.Cands.length):wt p.Cands[i]≤bA:=by
 rw [aK] at h
 have:=mD hi
 omega
theorem zq1 {α σ R:Type} (l:List α) (hl:l.length≤maxLen) (p:α→Bool) (vX:α→Option R) (z:Option R) {f:Int × σ→(Int × σ→Option R)→Option R} (s:σ)
  (hf:∀ (i:Nat) (k:Int × σ→Option R) (h:i<l.length),f ((i:Int),s) k=bif p l[i] then vX l[i] else k (IntKind.wrap .i64 ((i:Int)+1),s)) (hz:∀ k,f ((l.length:Int),s) k=z):
  tA FU f ((0:Int),s)=match l.find? p with
   | some e=>vX e
   | none=>z:=by
 have key:=zfq (σ:=σ) l.length hl (f:=f) (g:=fun i _=>match (l.drop i).find? p with
   | some e=>vX e
   | none=>z) (fun _ t=>t=s) (fun i t k hi ht hk=>by
   subst ht
   rw [hf i k hi,hk t rfl,kI l hi,List.find?_cons]
   cases p l[i] <;> rfl) (fun t k ht=>by subst ht;rw [hz];simp) 0 s (Nat.zero_le _) rfl
 simpa using key
theorem zs0 (p:G.Paths) (a:G.Addr) (h:wt p≤bA):rL.raw p a=some (kQ p a):=by
 have hl:=aK p
 simp only [rL.raw,aA,cH,kQ]
 cases sD p
 ·rfl
 simp only [Bool.not_true,cond_false,cond_true]
 rw [zq1 p.Cands (HD (by omega)) (fun e=>MC e.A a) (fun e=>some (e,true)) _ _ (fun i k hi=>?_) (fun k=>by simp only [dC,cond_false];rfl)]
 ·cases p.Cands.find? _ <;> rfl
 ·simp only [TB hi,cond_true,nB hi,dB,gI,QA (zj4 h hi)]
theorem rL.ok {x:lA [.v .Paths, .v .Addr]} (_:rA [.v .Paths, .v .Addr] x) {r:G.Cand × Bool}:lQ x.1 x.2=some r→rL.raw x.1 x.2=some r:=HA fun h=>zs0 x.1 x.2 h
end Go.D

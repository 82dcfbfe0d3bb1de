/-
  Sizes of the program's data.
-/
import Derived.Test.YtinolgjddfjojaaGreatN9
namespace Go.D
end Go.D
namespace Go.D
noncomputable def epCopyO (e:G.Ep) (_:Bool):Option G.Ep:=pt (wt e≤LIM) e
end Go.D
namespace Go.D
noncomputable section
def spec_l26New.raw (a0:G.Cur):Option (G.World × G.Cur):=
  Option.bind (spec_l1Bytes.raw a0 8) fun r1=>
  Option.bind (spec_l1Bytes.raw r1.2 6) fun r2=>
  Option.bind (spec_l1Bytes.raw r2.2 9) fun r3=>
  Option.bind (spec_l1Below.raw r3.2 3) fun r4=>
  Option.bind (worldNewO r1.1 r2.1 r3.1 (iadd .i64 1 r4.1)) fun r5=>
  some (r5,r4.2)
def spec_l8Copy.raw (a0:G.Win):Option G.Win:=
  cond (decide (([]:List Int).length+a0.Bits.length≤LIM)) (some (⟨a0.Top,[]++a0.Bits⟩:G.Win)) none
def spec_l9Copy.raw (a0:G.Ep):Option G.Ep:=
  cond (decide (([]:List UInt8).length+a0.Key.length≤LIM)) (Option.bind (cpy a0.Win) fun r1=>
  some (⟨a0.N,[]++a0.Key,a0.Seq,r1⟩:G.Ep)) none
def spec_l14Ep.raw (a0:G.Ep) (a1:Bool):Option G.Ep:=
  cond (!a1)
  (cond (decide (([]:List UInt8).length+a0.Key.length≤LIM)) (cond (decide (([]:List Int).length+a0.Win.Bits.length≤LIM)) (some (⟨a0.N,[]++a0.Key,a0.Seq,(⟨a0.Win.Top,[]++a0.Win.Bits⟩:G.Win)⟩:G.Ep)) none) none)
  (Option.bind (cpy a0) fun r1=>
  some r1)
def spec_l14Copy.raw (a0:G.Chan):Option G.Chan:=
  cond (decide (([]:List UInt8).length+a0.Sn.length≤LIM)) (Option.bind (cpy a0.Cur) fun r1=>
  Option.bind (epCopyO a0.Old a0.HasOld) fun r2=>
  cond (decide (([]:List UInt8).length+a0.Next.length≤LIM)) (some (⟨a0.Role,[]++a0.Sn,r1,r2,a0.HasOld,a0.Until,[]++a0.Next⟩:G.Chan)) none) none
def spec_l16Copy.raw (a0:G.Paths):Option G.Paths:=
  joinK (fun (y1:G.Paths)=>
  some y1) fun k2=>
  loopK FU (fun (x3:Int × G.Paths) k4=>
  cond (decide (x3.1<(a0.Cands.length:Int)))
  (Option.bind (idxI a0.Cands x3.1) fun e5=>
  Option.bind (candCopyO e5) fun r6=>
  cond (decide (x3.2.Cands.length+[r6].length≤LIM)) (k4 ((iadd .i64 x3.1 1),(⟨x3.2.At,x3.2.Cands++[r6]⟩:G.Paths))) none)
  (k2 x3.2)) (0,(⟨a0.At,[]⟩:G.Paths))
def spec_l20Copy.raw (a0:G.Sess):Option G.Sess:=
  cond (decide (([]:List UInt8).length+a0.Cn.length≤LIM)) (cond (decide (([]:List UInt8).length+a0.Sn.length≤LIM)) (Option.bind (cpy a0.C) fun r1=>
  Option.bind (cpy a0.P) fun r2=>
  some (⟨a0.Id,[]++a0.Cn,[]++a0.Sn,r1,r2,a0.Tick,a0.Last,a0.Dead⟩:G.Sess)) none) none
def spec_l21Copy.raw (a0:G.Tab):Option G.Tab:=
  joinK (fun (y1:G.Tab)=>
  some y1) fun k2=>
  loopK FU (fun (x3:Int × G.Tab) k4=>
  cond (decide (x3.1<(a0.L.length:Int)))
  (Option.bind (idxI a0.L x3.1) fun e5=>
  Option.bind (cpy e5) fun r6=>
  cond (decide (x3.2.L.length+[r6].length≤LIM)) (k4 ((iadd .i64 x3.1 1),(⟨x3.2.Cap,x3.2.L++[r6]⟩:G.Tab))) none)
  (k2 x3.2)) (0,(⟨a0.Cap,[]⟩:G.Tab))
def spec_l22Copy.raw (a0:G.Server):Option G.Server:=
  cond (decide (([]:List UInt8).length+a0.J.Secret.length≤LIM)) (Option.bind (diceCopyO a0.D) fun r1=>
  Option.bind (cpy a0.T) fun r2=>
  cond (decide (([]:List G.Credit).length+a0.Cr.length≤LIM)) (joinK (fun (y3:G.Server)=>
  some y3) fun k4=>
  loopK FU (fun (x5:Int × G.Server) k6=>
  cond (decide (x5.1<(a0.Psks.length:Int)))
  (Option.bind (idxI a0.Psks x5.1) fun e7=>
  cond (decide (([]:List UInt8).length+e7.length≤LIM)) (cond (decide (x5.2.Psks.length+[[]++e7].length≤LIM)) (k6 ((iadd .i64 x5.1 1),(⟨x5.2.Psks++[[]++e7],x5.2.J,x5.2.D,x5.2.T,x5.2.Cr⟩:G.Server))) none) none)
  (k4 x5.2)) (0,(⟨[],(⟨[]++a0.J.Secret⟩:G.Jar),r1,r2,[]++a0.Cr⟩:G.Server))) none) none
def spec_l23Copy.raw (a0:List G.Wire):Option (List G.Wire):=
  joinK (fun (y1:(List G.Wire))=>
  some y1) fun k2=>
  loopK FU (fun (x3:(List G.Wire) × Int) k4=>
  cond (decide (x3.2<(a0.length:Int)))
  (Option.bind (idxI a0 x3.2) fun e5=>
  Option.bind (idxI a0 x3.2) fun e6=>
  Option.bind (idxI a0 x3.2) fun e7=>
  cond (decide (([]:List UInt8).length+e7.B.length≤LIM)) (cond (decide (x3.1.length+[(⟨e5.From,e6.To,[]++e7.B⟩:G.Wire)].length≤LIM)) (k4 ((x3.1++[(⟨e5.From,e6.To,[]++e7.B⟩:G.Wire)]),(iadd .i64 x3.2 1))) none) none)
  (k2 x3.1)) ([],0)
def spec_l18Copy.raw (a0:G.Note):Option G.Note:=
  cond (decide (([]:List UInt8).length+a0.Cn.length≤LIM)) (cond (decide (([]:List UInt8).length+a0.Sn.length≤LIM)) (cond (decide (([]:List UInt8).length+a0.Body.length≤LIM)) (cond (decide (([]:List UInt8).length+a0.Key.length≤LIM)) (some (⟨a0.Kind,a0.Id,a0.Role,[]++a0.Cn,[]++a0.Sn,a0.Epoch,a0.Seq,[]++a0.Body,[]++a0.Key,a0.A,a0.Now⟩:G.Note)) none) none) none) none
def spec_l18All.raw (a0:List G.Note):Option (List G.Note):=
  joinK (fun (y1:(List G.Note))=>
  some y1) fun k2=>
  loopK FU (fun (x3:(List G.Note) × Int) k4=>
  cond (decide (x3.2<(a0.length:Int)))
  (Option.bind (idxI a0 x3.2) fun e5=>
  Option.bind (cpy e5) fun r6=>
  cond (decide (x3.1.length+[r6].length≤LIM)) (k4 ((x3.1++[r6]),(iadd .i64 x3.2 1))) none)
  (k2 x3.1)) ([],0)
def spec_l7Copy.raw (a0:G.Frame):Option G.Frame:=
  cond (decide (([]:List UInt8).length+a0.Cn.length≤LIM)) (cond (decide (([]:List UInt8).length+a0.Sn.length≤LIM)) (cond (decide (([]:List UInt8).length+a0.Cookie.length≤LIM)) (cond (decide (([]:List UInt8).length+a0.Proof.length≤LIM)) (cond (decide (([]:List UInt8).length+a0.Body.length≤LIM)) (cond (decide (([]:List UInt8).length+a0.Tag.length≤LIM)) (some (⟨a0.Kind,a0.Id,[]++a0.Cn,[]++a0.Sn,a0.Tick,[]++a0.Cookie,[]++a0.Proof,a0.Epoch,a0.Seq,[]++a0.Body,[]++a0.Tag⟩:G.Frame)) none) none) none) none) none) none
def spec_l19Copy.raw (a0:G.Client):Option G.Client:=
  cond (decide (([]:List UInt8).length+a0.Psk.length≤LIM)) (cond (decide (([]:List UInt8).length+a0.Cn.length≤LIM)) (Option.bind (cpy a0.Fin) fun r1=>
  Option.bind (cpy a0.C) fun r2=>
  some (⟨a0.Id,[]++a0.Psk,a0.At,a0.St,[]++a0.Cn,r1,r2,a0.T,a0.R,a0.Last⟩:G.Client)) none) none
def spec_l25Copy.raw (a0:G.World):Option G.World:=
  Option.bind (cpy a0.S) fun r1=>
  Option.bind (diceCopyO a0.D) fun r2=>
  Option.bind (cpy a0.Seen) fun r3=>
  Option.bind (cpy a0.Notes) fun r4=>
  joinK (fun (y5:G.World)=>
  joinK (fun (y11:G.World)=>
  some y11) fun k12=>
  loopK FU (fun (x13:Int × G.World) k14=>
  cond (decide (x13.1<(a0.Known.length:Int)))
  (Option.bind (idxI a0.Known x13.1) fun e15=>
  cond (decide (([]:List UInt8).length+e15.length≤LIM)) (cond (decide (x13.2.Known.length+[[]++e15].length≤LIM)) (k14 ((iadd .i64 x13.1 1),(⟨x13.2.Now,x13.2.Clients,x13.2.S,x13.2.D,x13.2.Seen,x13.2.Known++[[]++e15],x13.2.Notes⟩:G.World))) none) none)
  (k12 x13.2)) (0,y5)) fun k6=>
  loopK FU (fun (x7:Int × G.World) k8=>
  cond (decide (x7.1<(a0.Clients.length:Int)))
  (Option.bind (idxI a0.Clients x7.1) fun e9=>
  Option.bind (cpy e9) fun r10=>
  cond (decide (x7.2.Clients.length+[r10].length≤LIM)) (k8 ((iadd .i64 x7.1 1),(⟨x7.2.Now,x7.2.Clients++[r10],x7.2.S,x7.2.D,x7.2.Seen,x7.2.Known,x7.2.Notes⟩:G.World))) none)
  (k6 x7.2)) (0,(⟨a0.Now,[],r1,r2,r3,[],r4⟩:G.World))
def spec_l24Op.raw (a0:G.Cur):Option (G.Op × G.Cur):=
  Option.bind (spec_l1Int.raw a0 [1,1,2,2,3,4,4,5,5,6,7,8,9,10]) fun r1=>
  joinK (fun (y2:G.Cur × G.Op)=>
  Option.bind (spec_l1Below.raw y2.1 5) fun r6=>
  Option.bind (spec_l1Int.raw r6.2 [0,1,4,12,16]) fun r7=>
  some ((⟨y2.2.Kind,r6.1,r7.1,y2.2.B⟩:G.Op),r7.2)) fun k3=>
  cond (r1.1==1)
  (Option.bind (spec_l1Int.raw r1.2 [0,1,4,12,32]) fun r4=>
  Option.bind (spec_l1Bytes.raw r4.2 r4.1) fun r5=>
  k3 (r5.2,(⟨r1.1,0,0,r5.1⟩:G.Op)))
  (k3 (r1.2,(⟨r1.1,0,0,[]⟩:G.Op)))
def spec_l24Need.raw (a0:Int):Option Int:=
  cond (decide (0≤a0)&&decide (a0<([0,0,0,0,1,2,2,2,2,1,3].length:Int))) (Option.bind ([0,0,0,0,1,2,2,2,2,1,3][a0.toNat]?) fun e1=>
  some e1) none
def spec_l24Recipe.raw (a0:G.Cur) (a1:Int):Option ((List G.Op) × G.Cur):=
  Option.bind (spec_l1Below.raw a0 a1) fun r1=>
  joinK (fun (y2:(List G.Op) × Int × G.Cur)=>
  joinK (fun (y16:(List G.Op))=>
  some (y16,y2.2.2)) fun k17=>
  loopK FU (fun (x18:(List G.Op) × Int) k19=>
  cond (decide (x18.2>1))
  (cond (decide (x18.1.length+[(⟨5,0,0,[]⟩:G.Op)].length≤LIM)) (k19 ((x18.1++[(⟨5,0,0,[]⟩:G.Op)]),(isub .i64 x18.2 1))) none)
  (k17 x18.1)) (y2.1,y2.2.1)) fun k3=>
  loopK FU (fun (x4:(List G.Op) × Int × Int × G.Cur) k5=>
  cond (decide (x4.2.2.1>0))
  (Option.bind (spec_l24Op.raw x4.2.2.2) fun r6=>
  joinK (fun (y7:G.Cur × G.Op)=>
  Option.bind (spec_l24Need.raw y7.2.Kind) fun r15=>
  cond (decide (x4.1.length+[y7.2].length≤LIM)) (k5 ((x4.1++[y7.2]),(iadd .i64 (isub .i64 x4.2.1 r15) 1),(isub .i64 x4.2.2.1 1),y7.1)) none) fun k8=>
  loopK FU (fun (x9:Int × G.Cur × G.Op) k10=>
  joinK (fun (y11:Bool)=>
  cond (y11)
  (Option.bind (spec_l24Op.raw x9.2.1) fun r14=>
  k10 ((iadd .i64 x9.1 1),r14.2,r14.1))
  (k8 (x9.2.1,x9.2.2))) fun k12=>
  cond (decide (x9.1<6))
  (Option.bind (spec_l24Need.raw x9.2.2.Kind) fun r13=>
  k12 (decide (r13>x4.2.1)))
  (k12 false)) (0,r6.2,r6.1))
  (k3 (x4.1,x4.2.1,x4.2.2.2))) ([],0,(iadd .i64 1 r1.1),r1.2)
def spec_l9Kind.raw (a0:G.Cur):Option (Int × (List UInt8) × G.Cur):=
  Option.bind (spec_l1Below.raw a0 6) fun r1=>
  cond (r1.1==0)
  (Option.bind (spec_l1Below.raw r1.2 2) fun r2=>
  Option.bind (spec_l1Bytes.raw r2.2 12) fun r3=>
  some (iadd .i64 5 r2.1,r3.1,r3.2))
  (cond (r1.1==1)
  (Option.bind (spec_l1Below.raw r1.2 2) fun r4=>
  Option.bind (spec_l1Bytes.raw r4.2 4) fun r5=>
  some (iadd .i64 7 r4.1,r5.1,r5.2))
  (Option.bind (spec_l1Int.raw r1.2 [0,1,3,12,33,40]) fun r6=>
  Option.bind (spec_l1Bytes.raw r6.2 r6.1) fun r7=>
  some (4,r7.1,r7.2)))
def spec_HeadOf.raw (a0:Int) (a1:List UInt8) (a2:Int) (a3:Int):Option (List UInt8):=
  joinK (fun (y1:Bool)=>
  cond (y1)
  (some [])
  (cond (decide ([UInt8.ofNat (IntKind.wrap .u8 a0:Int).toNat].length+a1.length≤LIM)) (Option.bind (putNO ([UInt8.ofNat (IntKind.wrap .u8 a0:Int).toNat]++a1) a2 4) fun r3=>
  Option.bind (putNO r3 a3 6) fun r4=>
  some r4) none)) fun k2=>
  cond (!(inR a0 0 1))
  (k2 true)
  (cond ((a1.length:Int) !=12)
  (k2 true)
  (cond (!(inR a2 0 4294967295))
  (k2 true)
  (k2 (!(inR a3 0 281474976710655)))))
def spec_BlockOf.raw (a0:List UInt8) (a1:List UInt8) (a2:Int):Option (List UInt8):=
  joinK (fun (y1:Bool)=>
  cond (y1)
  (some [])
  (cond (decide ([UInt8.ofNat (115:Int).toNat].length+a1.length≤LIM)) (Option.bind (putNO ([UInt8.ofNat (115:Int).toNat]++a1) a2 4) fun r3=>
  let r4:(List UInt8):=hmac a0 r3
  some r4) none)) fun k2=>
  cond (!(inR a2 0 6))
  (k2 true)
  (k2 (decide ((a1.length:Int)>100)))
def spec_Stream.raw (a0:List UInt8) (a1:List UInt8) (a2:Int):Option (List UInt8):=
  joinK (fun (y1:Bool)=>
  cond (y1)
  (some [])
  (joinK (fun (y3:(List UInt8))=>
  cond (decide (0≤(0:Int))&&decide ((0:Int)≤a2)&&decide (a2≤(y3.length:Int))) (cond (decide (([]:List UInt8).length+(List.take ((a2 - 0).toNat) (List.drop 0 y3)).length≤LIM)) (some ([]++(List.take ((a2 - 0).toNat) (List.drop 0 y3)))) none) none) fun k4=>
  loopK FU (fun (x5:(List UInt8) × Int) k6=>
  cond (decide ((x5.1.length:Int)<a2))
  (Option.bind (spec_BlockOf.raw a0 a1 x5.2) fun r7=>
  cond (decide (x5.1.length+r7.length≤LIM)) (k6 ((x5.1++r7),(iadd .i64 x5.2 1))) none)
  (k4 x5.1)) ([],0))) fun k2=>
  cond (!(inR a2 0 200))
  (k2 true)
  (cond (decide ((a1.length:Int)>100))
  (k2 true)
  (k2 (decide ((a0.length:Int)>1048576))))
def spec_Mix.raw (a0:List UInt8) (a1:List UInt8) (a2:List UInt8):Option (List UInt8):=
  joinK (fun (y1:Bool)=>
  cond (y1)
  (some [])
  (Option.bind (spec_Stream.raw a0 a1 (a2.length:Int)) fun r3=>
  joinK (fun (y4:(List UInt8))=>
  some y4) fun k5=>
  loopK FU (fun (x6:(List UInt8) × Int) k7=>
  cond (decide (x6.2<(a2.length:Int)))
  (Option.bind (idxI a2 x6.2) fun e8=>
  cond (decide (0≤x6.2)&&decide (x6.2<(r3.length:Int))) (Option.bind (r3[x6.2.toNat]?) fun e9=>
  let x10:Int:=ixor .u8 ((e8.toNat:Nat):Int) ((e9.toNat:Nat):Int)
  cond (decide (x6.1.length+[UInt8.ofNat (x10:Int).toNat].length≤LIM)) (k7 ((x6.1++[UInt8.ofNat (x10:Int).toNat]),(iadd .i64 x6.2 1))) none) none)
  (k5 x6.1)) ([],0))) fun k2=>
  cond (decide ((a2.length:Int)>200))
  (k2 true)
  (cond (decide ((a1.length:Int)>100))
  (k2 true)
  (k2 (decide ((a0.length:Int)>1048576))))
def spec_TagInput.raw (a0:Int) (a1:G.Frame):Option (List UInt8):=
  joinK (fun (y1:Bool)=>
  cond (y1)
  (some [])
  (Option.bind (spec_HeadOf.raw a0 a1.Sn a1.Epoch a1.Seq) fun r3=>
  cond (decide ([UInt8.ofNat (116:Int).toNat].length+r3.length≤LIM)) (cond (decide (([UInt8.ofNat (116:Int).toNat]++r3).length+[UInt8.ofNat (IntKind.wrap .u8 a1.Kind:Int).toNat].length≤LIM)) (let x4:List UInt8:=([UInt8.ofNat (116:Int).toNat]++r3)++[UInt8.ofNat (IntKind.wrap .u8 a1.Kind:Int).toNat]
  cond (decide (x4.length+a1.Body.length≤LIM)) (some (x4++a1.Body)) none) none) none)) fun k2=>
  cond (!(inR a0 0 1))
  (k2 true)
  (cond (!(frameOk a1))
  (k2 true)
  (k2 (!(isSealed a1.Kind))))
def spec_Tag.raw (a0:List UInt8) (a1:List UInt8):Option (List UInt8):=
  let r1:(List UInt8):=hmac a0 a1
  cond (decide ((r1.length:Int)<16))
  (some [])
  (cond (decide (0≤(0:Int))&&decide ((0:Int)≤16)&&decide (16≤(r1.length:Int))) (cond (decide (([]:List UInt8).length+(List.take 16 (List.drop 0 r1)).length≤LIM)) (some ([]++(List.take 16 (List.drop 0 r1)))) none) none)
def spec_Seal.raw (a0:List UInt8) (a1:Int) (a2:List UInt8) (a3:Int) (a4:Int) (a5:Int) (a6:List UInt8):Option (G.Frame × Bool):=
  Option.bind (spec_HeadOf.raw a1 a2 a3 a4) fun r1=>
  joinK (fun (y2:Bool)=>
  cond (y2)
  (some ((⟨0,0,[],[],0,[],[],0,0,[],[]⟩:G.Frame),false))
  (cond (decide (([]:List UInt8).length+a2.length≤LIM)) (Option.bind (spec_Mix.raw a0 r1 a6) fun r4=>
  joinK (fun (y5:G.Frame)=>
  Option.bind (spec_TagInput.raw a1 y5) fun r9=>
  Option.bind (spec_Tag.raw a0 r9) fun r10=>
  some ((⟨y5.Kind,y5.Id,y5.Cn,y5.Sn,y5.Tick,y5.Cookie,y5.Proof,y5.Epoch,y5.Seq,y5.Body,r10⟩:G.Frame),true)) fun k6=>
  loopK FU (fun (x7:Int × G.Frame) k8=>
  cond (decide (x7.1<16))
  (cond (decide (x7.2.Tag.length+[UInt8.ofNat (0:Int).toNat].length≤LIM)) (k8 ((iadd .i64 x7.1 1),(⟨x7.2.Kind,x7.2.Id,x7.2.Cn,x7.2.Sn,x7.2.Tick,x7.2.Cookie,x7.2.Proof,x7.2.Epoch,x7.2.Seq,x7.2.Body,x7.2.Tag++[UInt8.ofNat (0:Int).toNat]⟩:G.Frame))) none)
  (k6 x7.2)) (0,(⟨a5,0,[],[]++a2,0,[],[],a3,a4,r4,[]⟩:G.Frame))) none)) fun k3=>
  cond ((a0.length:Int) !=32)
  (k3 true)
  (cond ((r1.length:Int)==0)
  (k3 true)
  (cond (!(isSealed a5))
  (k3 true)
  (k3 (!(bodyOk a5 (a6.length:Int))))))
def spec_Forge.raw (a0:List UInt8) (a1:Int) (a2:Int) (a3:List UInt8) (a4:Int) (a5:Int) (a6:Int) (a7:List UInt8):Option (List G.Op):=
  Option.bind (spec_Seal.raw a0 a2 a3 a4 a5 a6 a7) fun r1=>
  joinK (fun (y2:Bool)=>
  cond (y2)
  (some [])
  (cond (decide ([UInt8.ofNat (IntKind.wrap .u8 a6:Int).toNat].length+a3.length≤LIM)) (Option.bind (putNO ([UInt8.ofNat (IntKind.wrap .u8 a6:Int).toNat]++a3) a4 4) fun r4=>
  Option.bind (putNO r4 a5 6) fun r5=>
  Option.bind (spec_TagInput.raw a2 r1.1) fun r6=>
  cond (decide (([]:List UInt8).length+r1.1.Body.length≤LIM)) (let x7:List G.Op:=[(⟨1,0,0,r5⟩:G.Op),(⟨3,a1,0,[]⟩:G.Op),(⟨1,0,0,r6⟩:G.Op),(⟨8,0,0,[]⟩:G.Op),(⟨5,0,0,[]⟩:G.Op),(⟨1,0,0,[]++r1.1.Body⟩:G.Op),(⟨5,0,0,[]⟩:G.Op)]
  some x7) none) none)) fun k3=>
  cond (!r1.2)
  (k3 true)
  (k3 (!(inR a1 0 11)))
def spec_l26Pick.raw (a0:G.Cur) (a1:G.World) (a2:Int) (a3:Bool):Option (G.Event × G.Cur × Int):=
  Option.bind (spec_l1Below.raw a0 2) fun r1=>
  Option.bind (spec_l1Below.raw r1.2 3) fun r2=>
  Option.bind (spec_l1Below.raw r2.2 40) fun r3=>
  joinK (fun (y4:Bool × G.Cur)=>
  cond (y4.1)
  (some ((⟨7,a2,r2.1,r3.1,[],[]⟩:G.Event),y4.2,iadd .i64 a2 1))
  (joinK (fun (y7:Bool × G.Cur)=>
  cond (y7.1)
  (some ((⟨1,r1.1,r2.1,r3.1,[],[]⟩:G.Event),y7.2,a2))
  (Option.bind (spec_l1Below.raw y7.2 16) fun r11=>
  joinK (fun (y12:Bool)=>
  joinK (fun (y16:G.Event × G.Cur × G.Event)=>
  some (y16.1,y16.2.1,a2)) fun k17=>
  cond (y12)
  (Option.bind (spec_l1Below.raw r11.2 6) fun r18=>
  Option.bind (spec_l1Bytes.raw r18.2 r18.1) fun r19=>
  k17 ((⟨2,r1.1,r2.1,r3.1,r19.1,[]⟩:G.Event),r19.2,(⟨0,0,0,0,[],[]⟩:G.Event)))
  (joinK (fun (y20:Bool)=>
  joinK (fun (y22:G.Event × G.Cur × G.Event)=>
  k17 (y22.1,y22.2.1,y22.2.2)) fun k23=>
  cond (y20)
  (Option.bind (spec_l1Below.raw r11.2 3) fun r24=>
  Option.bind (spec_l1Below.raw r24.2 6) fun r25=>
  Option.bind (spec_l1Bytes.raw r25.2 r25.1) fun r26=>
  k23 ((⟨3,r24.1,r2.1,r3.1,r26.1,[]⟩:G.Event),r26.2,(⟨0,0,0,0,[],[]⟩:G.Event)))
  (joinK (fun (y27:Bool)=>
  joinK (fun (y29:G.Event × G.Cur × G.Event)=>
  k23 (y29.1,y29.2.1,y29.2.2)) fun k30=>
  cond (y27)
  (k30 ((⟨4,r1.1,r2.1,r3.1,[],[]⟩:G.Event),r11.2,(⟨0,0,0,0,[],[]⟩:G.Event)))
  (joinK (fun (y31:G.Event × G.Cur × G.Event)=>
  k30 (y31.1,y31.2.1,y31.2.2)) fun k32=>
  cond (r11.1==7)
  (k32 ((⟨5,r1.1,r2.1,r3.1,[],[]⟩:G.Event),r11.2,(⟨0,0,0,0,[],[]⟩:G.Event)))
  (joinK (fun (y33:Bool)=>
  joinK (fun (y35:G.Event × G.Cur × G.Event)=>
  k32 (y35.1,y35.2.1,y35.2.2)) fun k36=>
  cond (y33)
  (k36 ((⟨6,r1.1,r2.1,r3.1,[],[]⟩:G.Event),r11.2,(⟨0,0,0,0,[],[]⟩:G.Event)))
  (Option.bind (spec_l1Below.raw r11.2 4) fun r37=>
  Option.bind (spec_l1Below.raw r37.2 90) fun r38=>
  joinK (fun (y39:Bool × G.Cur)=>
  joinK (fun (y42:G.Cur × G.Event)=>
  Option.bind (spec_l1Below.raw y42.1 256) fun r46=>
  cond (!a3)
  (some ((⟨y42.2.Kind,y42.2.I,r46.1,y42.2.N,y42.2.B,y42.2.Ops⟩:G.Event),r46.2,a2))
  (Option.bind (spec_l1Below.raw r46.2 12) fun r47=>
  joinK (fun (y48:Bool)=>
  joinK (fun (y50:G.Event × G.Cur)=>
  k36 (y50.1,y50.2,(⟨0,0,0,0,[],[]⟩:G.Event))) fun k51=>
  cond (y48)
  (Option.bind (spec_l24Recipe.raw r47.2 6) fun r52=>
  joinK (fun (y53:G.Cur × G.Event)=>
  k51 (y53.2,y53.1)) fun k54=>
  cond (decide ((a1.Known.length:Int)>0))
  (Option.bind (spec_l1Below.raw r52.2 (a1.Known.length:Int)) fun r55=>
  Option.bind (idxI a1.Clients 0) fun e56=>
  joinK (fun (y57:Bool × G.Cur)=>
  joinK (fun (y60:(List UInt8))=>
  Option.bind (spec_l9Kind.raw y57.2) fun r63=>
  Option.bind (idxI a1.Known r55.1) fun e64=>
  Option.bind (spec_l1Below.raw r63.2.2 2) fun r65=>
  Option.bind (spec_l1Below.raw r65.2 3) fun r66=>
  Option.bind (spec_l1Below.raw r66.2 30) fun r67=>
  Option.bind (spec_Forge.raw e64 r55.1 r65.1 y60 r66.1 r67.1 r63.1 r63.2.1) fun r68=>
  joinK (fun (y69:G.Event)=>
  k54 (r67.2,y69)) fun k70=>
  cond (decide ((r68.length:Int)>0))
  (k70 (⟨11,y42.2.I,r46.1,y42.2.N,y42.2.B,r68⟩:G.Event))
  (k70 (⟨11,y42.2.I,r46.1,y42.2.N,y42.2.B,r52.1⟩:G.Event))) fun k61=>
  cond (y57.1)
  (Option.bind (idxI a1.Clients 1) fun e62=>
  k61 e62.C.Sn)
  (k61 e56.C.Sn)) fun k58=>
  cond ((e56.C.Sn.length:Int)==0)
  (k58 (true,r55.2))
  (Option.bind (spec_l1Once.raw r55.2 3) fun r59=>
  k58 (r59.1,r59.2)))
  (k54 (r52.2,(⟨11,y42.2.I,r46.1,y42.2.N,y42.2.B,r52.1⟩:G.Event))))
  (joinK (fun (y71:G.Event × G.Cur)=>
  k51 (y71.1,y71.2)) fun k72=>
  cond (r47.1==2)
  (k72 ((⟨12,y42.2.I,r46.1,y42.2.N,y42.2.B,y42.2.Ops⟩:G.Event),r47.2))
  (joinK (fun (y73:G.Event × G.Cur)=>
  k72 (y73.1,y73.2)) fun k74=>
  cond (r47.1==3)
  (k74 ((⟨13,y42.2.I,r46.1,y42.2.N,y42.2.B,y42.2.Ops⟩:G.Event),r47.2))
  (joinK (fun (y75:G.Event × G.Cur)=>
  k74 (y75.1,y75.2)) fun k76=>
  cond (r47.1==4)
  (Option.bind (spec_l1Below.raw r47.2 3) fun r77=>
  k76 ((⟨14,r77.1,r46.1,y42.2.N,y42.2.B,y42.2.Ops⟩:G.Event),r77.2))
  (joinK (fun (y78:G.Event × G.Cur)=>
  k76 (y78.1,y78.2)) fun k79=>
  cond (r47.1==5)
  (k79 ((⟨15,y42.2.I,r46.1,y42.2.N,y42.2.B,y42.2.Ops⟩:G.Event),r47.2))
  (joinK (fun (y80:G.Event × G.Cur)=>
  k79 (y80.1,y80.2)) fun k81=>
  cond (r47.1==6)
  (Option.bind (spec_l1Below.raw r47.2 3) fun r82=>
  k81 ((⟨16,r82.1,r46.1,y42.2.N,y42.2.B,y42.2.Ops⟩:G.Event),r82.2))
  (joinK (fun (y83:G.Cur × G.Event)=>
  k81 (y83.2,y83.1)) fun k84=>
  cond (r47.1==7)
  (Option.bind (spec_l1Once.raw r47.2 3) fun r85=>
  joinK (fun (y86:G.Event × G.Cur)=>
  k84 (y86.2,y86.1)) fun k87=>
  cond (r85.1)
  (Option.bind (spec_l1Below.raw r85.2 12) fun r88=>
  k87 ((⟨17,y42.2.I,r46.1,r88.1,y42.2.B,y42.2.Ops⟩:G.Event),r88.2))
  (k87 ((⟨y42.2.Kind,y42.2.I,r46.1,y42.2.N,y42.2.B,y42.2.Ops⟩:G.Event),r85.2)))
  (joinK (fun (y89:G.Event × G.Cur)=>
  k84 (y89.2,y89.1)) fun k90=>
  cond (r47.1==8)
  (Option.bind (spec_l1Int.raw r47.2 [2,3,4]) fun r91=>
  Option.bind (spec_l1Int.raw r91.2 [24,28,44,33]) fun r92=>
  let x93:List G.Op:=[(⟨1,0,0,[UInt8.ofNat (IntKind.wrap .u8 r91.1:Int).toNat]⟩:G.Op),(⟨2,y42.2.I,0,[]⟩:G.Op),(⟨4,1,r92.1,[]⟩:G.Op),(⟨5,0,0,[]⟩:G.Op)]
  k90 ((⟨11,y42.2.I,r46.1,y42.2.N,y42.2.B,x93⟩:G.Event),r92.2))
  (k90 ((⟨y42.2.Kind,y42.2.I,r46.1,y42.2.N,y42.2.B,y42.2.Ops⟩:G.Event),r47.2)))))))))) fun k49=>
  cond (r47.1==0)
  (k49 (r47.1==0))
  (k49 (r47.1==1)))) fun k43=>
  cond (y39.1)
  (Option.bind (spec_l1Below.raw y39.2 4) fun r44=>
  let x45:Int:=isub .i64 (isub .i64 (a1.Seen.length:Int) 1) r44.1
  k43 (r44.2,(⟨iadd .i64 7 r37.1,x45,r2.1,r3.1,[],[]⟩:G.Event)))
  (k43 (y39.2,(⟨iadd .i64 7 r37.1,r38.1,r2.1,r3.1,[],[]⟩:G.Event)))) fun k40=>
  cond (decide ((a1.Seen.length:Int)>4))
  (Option.bind (spec_l1Once.raw r38.2 2) fun r41=>
  k40 (r41.1,r41.2))
  (k40 (false,r38.2)))) fun k34=>
  cond (r11.1==8)
  (k34 (r11.1==8))
  (k34 (r11.1==9))))) fun k28=>
  cond (r11.1==5)
  (k28 (r11.1==5))
  (k28 (r11.1==6)))) fun k21=>
  cond (r11.1==3)
  (k21 (r11.1==3))
  (k21 (r11.1==4)))) fun k13=>
  cond (r11.1==0)
  (k13 (r11.1==0))
  (joinK (fun (y14:Bool)=>
  k13 y14) fun k15=>
  cond (r11.1==1)
  (k15 (r11.1==1))
  (k15 (r11.1==2))))) fun k8=>
  Option.bind (idxI a1.Clients r1.1) fun e9=>
  cond (e9.St==0)
  (Option.bind (spec_l1Once.raw y4.2 4) fun r10=>
  k8 ((!r10.1),r10.2))
  (k8 (false,y4.2)))) fun k5=>
  cond (decide (a2<(a1.Seen.length:Int)))
  (Option.bind (spec_l1Once.raw r3.2 4) fun r6=>
  k5 ((!r6.1),r6.2))
  (k5 (false,r3.2))
def spec_TimerSet.raw (a0:Int):Option G.Timer:=
  cond (!(inR a0 0 1000000))
  (some (⟨false,0,0,0⟩:G.Timer))
  (some (⟨true,iadd .i64 a0 1,1,1⟩:G.Timer))
def spec_l19Init.raw (a0:G.Client):Option G.Frame:=
  cond (decide (([]:List UInt8).length+a0.Cn.length≤LIM)) (some (⟨1,a0.Id,[]++a0.Cn,[],0,[],[],0,0,[],[]⟩:G.Frame)) none
def spec_Dial.raw (a0:G.Client) (a1:Int) (a2:List UInt8):Option (G.Client × (List G.Frame) × (List G.Note) × Int):=
  Option.bind (cpy a0) fun r1=>
  joinK (fun (y2:Bool)=>
  cond (y2)
  (some (r1,[],[],1))
  (cond (a0.St !=0)
  (some (r1,[],[],6))
  (cond (decide (([]:List UInt8).length+a2.length≤LIM)) (Option.bind (spec_TimerSet.raw a1) fun r5=>
  cond (decide (([]:List UInt8).length+a2.length≤LIM)) (Option.bind (spec_l19Init.raw (⟨r1.Id,r1.Psk,r1.At,1,[]++a2,r1.Fin,r1.C,r5,r1.R,r1.Last⟩:G.Client)) fun r6=>
  let x7:List G.Note:=[(⟨1,a0.Id,0,[]++a2,[],0,0,[],[],(⟨0,0⟩:G.Addr),a1⟩:G.Note)]
  some ((⟨r1.Id,r1.Psk,r1.At,1,[]++a2,r1.Fin,r1.C,r5,r1.R,r1.Last⟩:G.Client),[r6],x7,0)) none) none))) fun k3=>
  Option.bind (clientOkO a0) fun r4=>
  cond (!r4)
  (k3 true)
  (cond (!(inR a1 0 1000000))
  (k3 true)
  (k3 ((a2.length:Int) !=12)))
def spec_PutFrame.raw (a0:G.Frame):Option (List UInt8):=
  cond (!(frameOk a0))
  (some [])
  (joinK (fun (y1:(List UInt8))=>
  some y1) fun k2=>
  cond (a0.Kind==1)
  (cond (decide ([UInt8.ofNat (IntKind.wrap .u8 a0.Kind:Int).toNat].length+[UInt8.ofNat (IntKind.wrap .u8 a0.Id:Int).toNat].length≤LIM)) (let x3:List UInt8:=[UInt8.ofNat (IntKind.wrap .u8 a0.Kind:Int).toNat]++[UInt8.ofNat (IntKind.wrap .u8 a0.Id:Int).toNat]
  cond (decide (x3.length+a0.Cn.length≤LIM)) (joinK (fun (y4:(List UInt8))=>
  k2 y4) fun k5=>
  loopK FU (fun (x6:(List UInt8) × Int) k7=>
  cond (decide (x6.2<20))
  (cond (decide (x6.1.length+[UInt8.ofNat (0:Int).toNat].length≤LIM)) (k7 ((x6.1++[UInt8.ofNat (0:Int).toNat]),(iadd .i64 x6.2 1))) none)
  (k5 x6.1)) ((x3++a0.Cn),0)) none) none)
  (joinK (fun (y8:(List UInt8))=>
  k2 y8) fun k9=>
  cond (a0.Kind==2)
  (cond (decide ([UInt8.ofNat (IntKind.wrap .u8 a0.Kind:Int).toNat].length+a0.Cn.length≤LIM)) (let x10:List UInt8:=[UInt8.ofNat (IntKind.wrap .u8 a0.Kind:Int).toNat]++a0.Cn
  cond (decide (x10.length+a0.Sn.length≤LIM)) (Option.bind (putNO (x10++a0.Sn) a0.Tick 4) fun r11=>
  cond (decide (r11.length+a0.Cookie.length≤LIM)) (k9 (r11++a0.Cookie)) none) none) none)
  (joinK (fun (y12:(List UInt8))=>
  k9 y12) fun k13=>
  cond (a0.Kind==3)
  (cond (decide ([UInt8.ofNat (IntKind.wrap .u8 a0.Kind:Int).toNat].length+[UInt8.ofNat (IntKind.wrap .u8 a0.Id:Int).toNat].length≤LIM)) (let x14:List UInt8:=[UInt8.ofNat (IntKind.wrap .u8 a0.Kind:Int).toNat]++[UInt8.ofNat (IntKind.wrap .u8 a0.Id:Int).toNat]
  cond (decide (x14.length+a0.Cn.length≤LIM)) (cond (decide ((x14++a0.Cn).length+a0.Sn.length≤LIM)) (Option.bind (putNO ((x14++a0.Cn)++a0.Sn) a0.Tick 4) fun r15=>
  cond (decide (r15.length+a0.Cookie.length≤LIM)) (cond (decide ((r15++a0.Cookie).length+a0.Proof.length≤LIM)) (k13 ((r15++a0.Cookie)++a0.Proof)) none) none) none) none) none)
  (cond (decide ([UInt8.ofNat (IntKind.wrap .u8 a0.Kind:Int).toNat].length+a0.Sn.length≤LIM)) (let x16:List UInt8:=[UInt8.ofNat (IntKind.wrap .u8 a0.Kind:Int).toNat]++a0.Sn
  Option.bind (putNO x16 a0.Epoch 4) fun r17=>
  Option.bind (putNO r17 a0.Seq 6) fun r18=>
  cond (decide (r18.length+a0.Tag.length≤LIM)) (cond (decide ((r18++a0.Tag).length+a0.Body.length≤LIM)) (k13 ((r18++a0.Tag)++a0.Body)) none) none) none))))
def spec_WireFrom.raw (a0:G.Addr) (a1:G.Addr) (a2:G.Frame):Option G.Wire:=
  Option.bind (spec_PutFrame.raw a2) fun r1=>
  some (⟨a0,a1,r1⟩:G.Wire)
def spec_l25Sent.raw (a0:G.Client) (a1:List G.Frame):Option (List G.Wire):=
  joinK (fun (y1:(List G.Wire))=>
  some y1) fun k2=>
  loopK FU (fun (x3:(List G.Wire) × Int) k4=>
  cond (decide (x3.2<(a1.length:Int)))
  (let r5:G.Addr:=hub
  Option.bind (idxI a1 x3.2) fun e6=>
  Option.bind (spec_WireFrom.raw a0.At r5 e6) fun r7=>
  cond (decide (x3.1.length+[r7].length≤LIM)) (k4 ((x3.1++[r7]),(iadd .i64 x3.2 1))) none)
  (k2 x3.1)) ([],0)
def spec_l26See.raw (a0:G.World) (a1:List G.Wire) (a2:List G.Note):Option G.World:=
  joinK (fun (y1:G.World)=>
  cond (decide (y1.Notes.length+a2.length≤LIM)) (some (⟨y1.Now,y1.Clients,y1.S,y1.D,y1.Seen,y1.Known,y1.Notes++a2⟩:G.World)) none) fun k2=>
  loopK FU (fun (x3:Int × G.World) k4=>
  cond (decide (x3.1<(a1.length:Int)))
  (joinK (fun (y5:G.World)=>
  k4 ((iadd .i64 x3.1 1),y5)) fun k6=>
  cond (decide ((x3.2.Seen.length:Int)<90))
  (Option.bind (idxI a1 x3.1) fun e7=>
  cond (decide (x3.2.Seen.length+[e7].length≤LIM)) (k6 (⟨x3.2.Now,x3.2.Clients,x3.2.S,x3.2.D,x3.2.Seen++[e7],x3.2.Known,x3.2.Notes⟩:G.World)) none)
  (k6 x3.2))
  (k2 x3.2)) (0,a0)
def spec_l26Client.raw (a0:G.World) (a1:Int) (a2:G.Client) (a3:List G.Frame) (a4:List G.Note):Option G.World:=
  cond (decide (0≤a1)&&decide (a1<(a0.Clients.length:Int))) (Option.bind (a0.Clients[a1.toNat]?) fun e1=>
  Option.bind (spec_l25Sent.raw a2 a3) fun r2=>
  Option.bind (spec_l26See.raw (⟨a0.Now,List.set a0.Clients a1.toNat a2,a0.S,a0.D,a0.Seen,a0.Known,a0.Notes⟩:G.World) r2 a4) fun r3=>
  some r3) none
def spec_EpSeal.raw (a0:G.Ep) (a1:Int) (a2:List UInt8) (a3:Int) (a4:List UInt8):Option (G.Ep × G.Frame × Int):=
  Option.bind (cpy a0) fun r1=>
  joinK (fun (y2:Bool)=>
  cond (y2)
  (some (r1,(⟨0,0,[],[],0,[],[],0,0,[],[]⟩:G.Frame),1))
  (joinK (fun (y5:Bool)=>
  cond (y5)
  (some (r1,(⟨0,0,[],[],0,[],[],0,0,[],[]⟩:G.Frame),4))
  (cond (a0.Seq==281474976710656)
  (some (r1,(⟨0,0,[],[],0,[],[],0,0,[],[]⟩:G.Frame),5))
  (Option.bind (spec_Seal.raw a0.Key a1 a2 a0.N a0.Seq a3 a4) fun r7=>
  some ((⟨r1.N,r1.Key,iadd .i64 a0.Seq 1,r1.Win⟩:G.Ep),r7.1,0)))) fun k6=>
  cond (a3==4)
  (k6 (decide (a0.Seq≥281474976709656)))
  (k6 false))) fun k3=>
  cond (!(epOk a0))
  (k3 true)
  (Option.bind (spec_HeadOf.raw a1 a2 a0.N 0) fun r4=>
  cond ((r4.length:Int)==0)
  (k3 true)
  (cond (!(isSealed a3))
  (k3 true)
  (k3 (!(bodyOk a3 (a4.length:Int))))))
def spec_ChanSeal.raw (a0:G.Chan) (a1:Int) (a2:List UInt8):Option (G.Chan × G.Frame × Int):=
  Option.bind (cpy a0) fun r1=>
  Option.bind (chanOkO a0) fun r2=>
  cond (!r2)
  (some (r1,(⟨0,0,[],[],0,[],[],0,0,[],[]⟩:G.Frame),1))
  (Option.bind (spec_EpSeal.raw a0.Cur a0.Role a0.Sn a1 a2) fun r3=>
  joinK (fun (y4:G.Chan)=>
  some (y4,r3.2.1,r3.2.2)) fun k5=>
  cond (r3.2.2==0)
  (k5 (⟨r1.Role,r1.Sn,r3.1,r1.Old,r1.HasOld,r1.Until,r1.Next⟩:G.Chan))
  (k5 r1))
def spec_Made.raw (a0:List UInt8) (a1:List UInt8):Option G.Note:=
  cond (decide (([]:List UInt8).length+a0.length≤LIM)) (cond (decide (([]:List UInt8).length+a1.length≤LIM)) (some (⟨15,0,0,[],[],0,0,[]++a1,[]++a0,(⟨0,0⟩:G.Addr),0⟩:G.Note)) none) none
def spec_l19Made.raw (a0:G.Chan) (a1:G.Frame):Option G.Note:=
  Option.bind (spec_TagInput.raw a0.Role a1) fun r1=>
  Option.bind (spec_Made.raw a0.Cur.Key r1) fun r2=>
  some r2
def spec_ClientSend.raw (a0:G.Client) (a1:Int) (a2:List UInt8):Option (G.Client × (List G.Frame) × (List G.Note) × Int):=
  Option.bind (cpy a0) fun r1=>
  joinK (fun (y2:Bool)=>
  cond (y2)
  (some (r1,[],[],1))
  (cond (a0.St !=3)
  (some (r1,[],[],6))
  (Option.bind (spec_ChanSeal.raw a0.C 4 a2) fun r5=>
  cond (r5.2.2 !=0)
  (some (r1,[],[],r5.2.2))
  (cond (decide (([]:List UInt8).length+r5.2.1.Sn.length≤LIM)) (cond (decide (([]:List UInt8).length+a2.length≤LIM)) (Option.bind (spec_l19Made.raw r5.1 r5.2.1) fun r6=>
  let x7:List G.Note:=[r6,(⟨5,0,0,[],[]++r5.2.1.Sn,r5.2.1.Epoch,r5.2.1.Seq,[]++a2,[],(⟨0,0⟩:G.Addr),0⟩:G.Note)]
  some ((⟨r1.Id,r1.Psk,r1.At,r1.St,r1.Cn,r1.Fin,r5.1,r1.T,r1.R,r1.Last⟩:G.Client),[r5.2.1],x7,0)) none) none)))) fun k3=>
  Option.bind (clientOkO a0) fun r4=>
  cond (!r4)
  (k3 true)
  (cond (!(inR a1 0 1000000))
  (k3 true)
  (k3 (decide ((a2.length:Int)>40))))
def spec_SessSend.raw (a0:G.Sess) (a1:List UInt8):Option (G.Sess × (List G.Out) × (List G.Note) × Int):=
  Option.bind (cpy a0) fun r1=>
  joinK (fun (y2:Bool)=>
  cond (y2)
  (some (r1,[],[],1))
  (cond (a0.Dead)
  (some (r1,[],[],6))
  (Option.bind (spec_ChanSeal.raw a0.C 4 a1) fun r5=>
  cond (r5.2.2 !=0)
  (some (r1,[],[],r5.2.2))
  (cond (decide (([]:List UInt8).length+a0.Sn.length≤LIM)) (cond (decide (([]:List UInt8).length+a1.length≤LIM)) (Option.bind (spec_l19Made.raw r5.1 r5.2.1) fun r6=>
  let x7:List G.Note:=[r6,(⟨5,0,1,[],[]++a0.Sn,r5.2.1.Epoch,r5.2.1.Seq,[]++a1,[],(⟨0,0⟩:G.Addr),0⟩:G.Note)]
  some ((⟨r1.Id,r1.Cn,r1.Sn,r5.1,r1.P,r1.Tick,r1.Last,r1.Dead⟩:G.Sess),[(⟨a0.P.At,r5.2.1⟩:G.Out)],x7,0)) none) none)))) fun k3=>
  Option.bind (sessOkO a0) fun r4=>
  cond (!r4)
  (k3 true)
  (k3 (decide ((a1.length:Int)>40)))
def spec_ServerSend.raw (a0:G.Server) (a1:Int) (a2:Int) (a3:List UInt8):Option (G.Server × (List G.Out) × (List G.Note) × Int):=
  Option.bind (cpy a0) fun r1=>
  joinK (fun (y2:Bool)=>
  cond (y2)
  (some (r1,[],[],1))
  (let r5:Bool:=inR a2 0 (isub .i64 (a0.T.L.length:Int) 1)
  cond (!r5)
  (some (r1,[],[],8))
  (Option.bind (idxI a0.T.L a2) fun e6=>
  Option.bind (spec_SessSend.raw e6 a3) fun r7=>
  joinK (fun (y8:G.Server)=>
  some (y8,r7.2.1,r7.2.2.1,r7.2.2.2)) fun k9=>
  cond (r7.2.2.2==0)
  (cond (decide (0≤a2)&&decide (a2<(r1.T.L.length:Int))) (Option.bind (r1.T.L[a2.toNat]?) fun e10=>
  k9 (⟨r1.Psks,r1.J,r1.D,(⟨r1.T.Cap,List.set r1.T.L a2.toNat r7.1⟩:G.Tab),r1.Cr⟩:G.Server)) none)
  (k9 r1)))) fun k3=>
  Option.bind (serverOkO a0) fun r4=>
  cond (!r4)
  (k3 true)
  (k3 (!(inR a1 0 1000000)))
def spec_l25Outs.raw (a0:List G.Out):Option (List G.Wire):=
  joinK (fun (y1:(List G.Wire))=>
  some y1) fun k2=>
  loopK FU (fun (x3:(List G.Wire) × Int) k4=>
  cond (decide (x3.2<(a0.length:Int)))
  (let r5:G.Addr:=hub
  Option.bind (idxI a0 x3.2) fun e6=>
  Option.bind (idxI a0 x3.2) fun e7=>
  Option.bind (spec_WireFrom.raw r5 e6.To e7.F) fun r8=>
  cond (decide (x3.1.length+[r8].length≤LIM)) (k4 ((x3.1++[r8]),(iadd .i64 x3.2 1))) none)
  (k2 x3.1)) ([],0)
def spec_TimerFires.raw (a0:G.Timer) (a1:Int):Option Bool:=
  joinK (fun (y1:Bool)=>
  some y1) fun k2=>
  cond ((timerOk a0))
  (cond (a0.On)
  (cond ((inR a1 0 1000000))
  (k2 (decide (a1≥a0.Due)))
  (k2 false))
  (k2 false))
  (k2 false)
def spec_TimerNext.raw (a0:G.Timer) (a1:Int):Option (G.Timer × Int):=
  Option.bind (spec_TimerFires.raw a0 a1) fun r1=>
  cond (!r1)
  (some (a0,0))
  (cond (a0.Tries==5)
  (some ((⟨false,0,0,0⟩:G.Timer),2))
  (joinK (fun (y2:Int)=>
  some ((⟨true,iadd .i64 a1 y2,y2,iadd .i64 a0.Tries 1⟩:G.Timer),1)) fun k3=>
  cond (decide ((imul .i64 2 a0.Wait)>8))
  (k3 8)
  (k3 (imul .i64 2 a0.Wait))))
def spec_l19Idle.raw (a0:G.Client):Option G.Client:=
  Option.bind (clientNewO a0.Id a0.Psk a0.At) fun r1=>
  some r1
def spec_ChanTick.raw (a0:G.Chan) (a1:Int):Option G.Chan:=
  Option.bind (cpy a0) fun r1=>
  joinK (fun (y2:Bool)=>
  joinK (fun (y5:G.Chan)=>
  some y5) fun k6=>
  cond (y2)
  (k6 (⟨r1.Role,r1.Sn,r1.Cur,(⟨0,[],0,(⟨0,[]⟩:G.Win)⟩:G.Ep),false,0,r1.Next⟩:G.Chan))
  (k6 r1)) fun k3=>
  Option.bind (chanOkO a0) fun r4=>
  cond (r4)
  (cond ((inR a1 0 1000000))
  (cond (a0.HasOld)
  (cond (a0.Until !=(-1))
  (k3 (decide (a1>a0.Until)))
  (k3 false))
  (k3 false))
  (k3 false))
  (k3 false)
def spec_RekeyBody.raw (a0:Int):Option (List UInt8):=
  cond (!(inR a0 0 4294967295))
  (some [])
  (Option.bind (putNO [] a0 4) fun r1=>
  some r1)
def spec_AskRekey.raw (a0:G.Chan):Option (G.Chan × G.Frame × Int):=
  joinK (fun (y1:Bool)=>
  cond (y1)
  (Option.bind (cpy a0) fun r4=>
  some (r4,(⟨0,0,[],[],0,[],[],0,0,[],[]⟩:G.Frame),6))
  (Option.bind (spec_RekeyBody.raw (iadd .i64 a0.Cur.N 1)) fun r5=>
  Option.bind (spec_ChanSeal.raw a0 7 r5) fun r6=>
  some (r6.1,r6.2.1,r6.2.2))) fun k2=>
  Option.bind (chanOkO a0) fun r3=>
  cond (!r3)
  (k2 true)
  (k2 ((a0.Next.length:Int)==0))
def spec_ClientTick.raw (a0:G.Client) (a1:Int):Option (G.Client × (List G.Frame) × (List G.Note)):=
  Option.bind (cpy a0) fun r1=>
  joinK (fun (y2:Bool)=>
  cond (y2)
  (some (r1,[],[]))
  (cond (a0.St !=3)
  (Option.bind (spec_TimerNext.raw a0.T a1) fun r5=>
  cond (r5.2==2)
  (Option.bind (spec_l19Idle.raw a0) fun r6=>
  cond (decide (([]:List UInt8).length+a0.Cn.length≤LIM)) (let x7:List G.Note:=[(⟨17,a0.Id,0,[]++a0.Cn,[],0,0,[],[],(⟨0,0⟩:G.Addr),0⟩:G.Note)]
  cond (decide (([]:List G.Note).length+x7.length≤LIM)) (some (r6,[],[]++x7)) none) none)
  (joinK (fun (y8:Bool)=>
  joinK (fun (y10:(List G.Frame))=>
  joinK (fun (y13:Bool)=>
  joinK (fun (y15:(List G.Frame))=>
  some ((⟨r1.Id,r1.Psk,r1.At,r1.St,r1.Cn,r1.Fin,r1.C,r5.1,r1.R,r1.Last⟩:G.Client),y15,[])) fun k16=>
  cond (y13)
  (Option.bind (cpy a0.Fin) fun r17=>
  cond (decide (y10.length+[r17].length≤LIM)) (k16 (y10++[r17])) none)
  (k16 y10)) fun k14=>
  cond (r5.2==1)
  (k14 (a0.St==2))
  (k14 false)) fun k11=>
  cond (y8)
  (Option.bind (spec_l19Init.raw a0) fun r12=>
  cond (decide (([]:List G.Frame).length+[r12].length≤LIM)) (k11 ([]++[r12])) none)
  (k11 [])) fun k9=>
  cond (r5.2==1)
  (k9 (a0.St==1))
  (k9 false)))
  (cond (decide ((isub .i64 a1 a0.Last)>60))
  (Option.bind (spec_l19Idle.raw a0) fun r18=>
  cond (decide (([]:List UInt8).length+a0.C.Sn.length≤LIM)) (let x19:List G.Note:=[(⟨11,a0.Id,0,[],[]++a0.C.Sn,0,0,[],[],(⟨0,0⟩:G.Addr),0⟩:G.Note)]
  cond (decide (([]:List G.Note).length+x19.length≤LIM)) (some (r18,[],[]++x19)) none) none)
  (Option.bind (spec_ChanTick.raw a0.C a1) fun r20=>
  Option.bind (spec_TimerNext.raw a0.R a1) fun r21=>
  cond (r21.2==0)
  (some ((⟨r1.Id,r1.Psk,r1.At,r1.St,r1.Cn,r1.Fin,r20,r1.T,r1.R,r1.Last⟩:G.Client),[],[]))
  (joinK (fun (y22:G.Client)=>
  Option.bind (spec_AskRekey.raw y22.C) fun r25=>
  joinK (fun (y26:(List G.Frame) × (List G.Note) × G.Client)=>
  some (y26.2.2,y26.1,y26.2.1)) fun k27=>
  cond (r25.2.2==0)
  (cond (decide (([]:List G.Frame).length+[r25.2.1].length≤LIM)) (Option.bind (spec_l19Made.raw r25.1 r25.2.1) fun r28=>
  cond (decide (([]:List G.Note).length+[r28].length≤LIM)) (k27 (([]++[r25.2.1]),([]++[r28]),(⟨y22.Id,y22.Psk,y22.At,y22.St,y22.Cn,y22.Fin,r25.1,y22.T,y22.R,y22.Last⟩:G.Client))) none) none)
  (k27 ([],[],y22))) fun k23=>
  cond (r21.2==2)
  (Option.bind (spec_TimerSet.raw a1) fun r24=>
  k23 (⟨r1.Id,r1.Psk,r1.At,r1.St,r1.Cn,r1.Fin,r20,r1.T,r24,r1.Last⟩:G.Client))
  (k23 (⟨r1.Id,r1.Psk,r1.At,r1.St,r1.Cn,r1.Fin,r20,r1.T,r21.1,r1.Last⟩:G.Client))))))) fun k3=>
  Option.bind (clientOkO a0) fun r4=>
  cond (!r4)
  (k3 true)
  (cond (!(inR a1 0 1000000))
  (k3 true)
  (k3 (a0.St==0)))
def spec_Bury.raw (a0:G.Sess):Option G.Sess:=
  Option.bind (sessOkO a0) fun r1=>
  cond (!r1)
  (Option.bind (cpy a0) fun r2=>
  some r2)
  (cond (decide (([]:List UInt8).length+a0.Cn.length≤LIM)) (cond (decide (([]:List UInt8).length+a0.Sn.length≤LIM)) (some (⟨a0.Id,[]++a0.Cn,[]++a0.Sn,(⟨0,[],(⟨0,[],0,(⟨0,[]⟩:G.Win)⟩:G.Ep),(⟨0,[],0,(⟨0,[]⟩:G.Win)⟩:G.Ep),false,0,[]⟩:G.Chan),(⟨(⟨0,0⟩:G.Addr),[]⟩:G.Paths),a0.Tick,0,true⟩:G.Sess)) none) none)
def spec_PathTick.raw (a0:G.Paths) (a1:Int):Option G.Paths:=
  joinK (fun (y1:Bool)=>
  cond (y1)
  (Option.bind (cpy a0) fun r3=>
  some r3)
  (joinK (fun (y4:G.Paths)=>
  some y4) fun k5=>
  loopK FU (fun (x6:Int × G.Paths) k7=>
  cond (decide (x6.1<(a0.Cands.length:Int)))
  (Option.bind (idxI a0.Cands x6.1) fun e8=>
  joinK (fun (y9:G.Paths)=>
  k7 ((iadd .i64 x6.1 1),y9)) fun k10=>
  cond (decide (e8.Until≥a1))
  (Option.bind (idxI a0.Cands x6.1) fun e11=>
  Option.bind (candCopyO e11) fun r12=>
  cond (decide (x6.2.Cands.length+[r12].length≤LIM)) (k10 (⟨x6.2.At,x6.2.Cands++[r12]⟩:G.Paths)) none)
  (k10 x6.2))
  (k5 x6.2)) (0,(⟨a0.At,[]⟩:G.Paths)))) fun k2=>
  cond (!(pathsOk a0))
  (k2 true)
  (k2 (!(inR a1 0 1000000)))
def spec_SessTick.raw (a0:G.Sess) (a1:Int):Option G.Sess:=
  Option.bind (cpy a0) fun r1=>
  joinK (fun (y2:Bool)=>
  cond (y2)
  (some r1)
  (cond (decide ((isub .i64 a1 a0.Last)>60))
  (Option.bind (spec_Bury.raw a0) fun r5=>
  some r5)
  (Option.bind (spec_ChanTick.raw a0.C a1) fun r6=>
  Option.bind (spec_PathTick.raw a0.P a1) fun r7=>
  some (⟨r1.Id,r1.Cn,r1.Sn,r6,r7,r1.Tick,r1.Last,r1.Dead⟩:G.Sess)))) fun k3=>
  Option.bind (sessOkO a0) fun r4=>
  cond (!r4)
  (k3 true)
  (cond (a0.Dead)
  (k3 true)
  (k3 (!(inR a1 0 1000000))))
def spec_TabTick.raw (a0:G.Tab) (a1:Int):Option G.Tab:=
  joinK (fun (y1:Bool)=>
  cond (y1)
  (Option.bind (cpy a0) fun r4=>
  some r4)
  (joinK (fun (y5:G.Tab)=>
  some y5) fun k6=>
  loopK FU (fun (x7:Int × G.Tab) k8=>
  cond (decide (x7.1<(a0.L.length:Int)))
  (Option.bind (idxI a0.L x7.1) fun e9=>
  Option.bind (spec_SessTick.raw e9 a1) fun r10=>
  joinK (fun (y11:Bool)=>
  joinK (fun (y13:G.Tab)=>
  k8 ((iadd .i64 x7.1 1),y13)) fun k14=>
  cond (y11)
  (cond (decide (x7.2.L.length+[r10].length≤LIM)) (k14 (⟨x7.2.Cap,x7.2.L++[r10]⟩:G.Tab)) none)
  (k14 x7.2)) fun k12=>
  cond (!r10.Dead)
  (k12 true)
  (k12 (decide ((isub .i64 a1 r10.Tick)≤10))))
  (k6 x7.2)) (0,(⟨a0.Cap,[]⟩:G.Tab)))) fun k2=>
  Option.bind (tabOkO a0) fun r3=>
  cond (!r3)
  (k2 true)
  (k2 (!(inR a1 0 1000000)))
def spec_l22End.raw (a0:G.Sess):Option G.Note:=
  cond (decide (([]:List UInt8).length+a0.Sn.length≤LIM)) (some (⟨11,a0.Id,1,[],[]++a0.Sn,0,0,[],[],(⟨0,0⟩:G.Addr),0⟩:G.Note)) none
def spec_ServerTick.raw (a0:G.Server) (a1:Int):Option (G.Server × (List G.Note)):=
  Option.bind (cpy a0) fun r1=>
  joinK (fun (y2:Bool)=>
  cond (y2)
  (some (r1,[]))
  (Option.bind (spec_TabTick.raw a0.T a1) fun r5=>
  joinK (fun (y6:(List G.Note))=>
  some ((⟨r1.Psks,r1.J,r1.D,r5,r1.Cr⟩:G.Server),y6)) fun k7=>
  loopK FU (fun (x8:(List G.Note) × Int) k9=>
  cond (decide (x8.2<(a0.T.L.length:Int)))
  (Option.bind (idxI a0.T.L x8.2) fun e10=>
  Option.bind (findSnO r5 e10.Sn) fun r11=>
  joinK (fun (y12:Bool)=>
  joinK (fun (y16:(List G.Note))=>
  k9 (y16,(iadd .i64 x8.2 1))) fun k17=>
  cond (y12)
  (Option.bind (idxI a0.T.L x8.2) fun e18=>
  Option.bind (spec_l22End.raw e18) fun r19=>
  cond (decide (x8.1.length+[r19].length≤LIM)) (k17 (x8.1++[r19])) none)
  (k17 x8.1)) fun k13=>
  Option.bind (idxI a0.T.L x8.2) fun e14=>
  cond (!e14.Dead)
  (cond (decide (r11<0))
  (k13 true)
  (cond (decide (0≤r11)&&decide (r11<(r5.L.length:Int))) (Option.bind (r5.L[r11.toNat]?) fun e15=>
  k13 e15.Dead) none))
  (k13 false))
  (k7 x8.1)) ([],0))) fun k3=>
  Option.bind (serverOkO a0) fun r4=>
  cond (!r4)
  (k3 true)
  (k3 (!(inR a1 0 1000000)))
def spec_l25Tick.raw (a0:G.World):Option ((List G.Wire) × G.World):=
  joinK (fun (y1:(List G.Wire) × G.World)=>
  Option.bind (spec_ServerTick.raw y1.2.S y1.2.Now) fun r9=>
  cond (decide (y1.2.Notes.length+r9.2.length≤LIM)) (some (y1.1,(⟨y1.2.Now,y1.2.Clients,r9.1,y1.2.D,y1.2.Seen,y1.2.Known,y1.2.Notes++r9.2⟩:G.World))) none) fun k2=>
  loopK FU (fun (x3:(List G.Wire) × Int × G.World) k4=>
  cond (decide (x3.2.1<2))
  (cond (decide (0≤x3.2.1)&&decide (x3.2.1<(x3.2.2.Clients.length:Int))) (Option.bind (x3.2.2.Clients[x3.2.1.toNat]?) fun e5=>
  Option.bind (spec_ClientTick.raw e5 x3.2.2.Now) fun r6=>
  cond (decide (0≤x3.2.1)&&decide (x3.2.1<(x3.2.2.Clients.length:Int))) (Option.bind (x3.2.2.Clients[x3.2.1.toNat]?) fun e7=>
  cond (decide (x3.2.2.Notes.length+r6.2.2.length≤LIM)) (Option.bind (spec_l25Sent.raw r6.1 r6.2.1) fun r8=>
  cond (decide (x3.1.length+r8.length≤LIM)) (k4 ((x3.1++r8),(iadd .i64 x3.2.1 1),(⟨x3.2.2.Now,List.set x3.2.2.Clients x3.2.1.toNat r6.1,x3.2.2.S,x3.2.2.D,x3.2.2.Seen,x3.2.2.Known,x3.2.2.Notes++r6.2.2⟩:G.World))) none) none) none) none)
  (k2 (x3.1,x3.2.2))) ([],0,(⟨iadd .i64 a0.Now 1,a0.Clients,a0.S,a0.D,a0.Seen,a0.Known,a0.Notes⟩:G.World))
def spec_Roam.raw (a0:G.Client) (a1:G.Addr):Option G.Client:=
  Option.bind (cpy a0) fun r1=>
  joinK (fun (y2:Bool)=>
  joinK (fun (y5:G.Client)=>
  some y5) fun k6=>
  cond (y2)
  (k6 (⟨r1.Id,r1.Psk,a1,r1.St,r1.Cn,r1.Fin,r1.C,r1.T,r1.R,r1.Last⟩:G.Client))
  (k6 r1)) fun k3=>
  Option.bind (clientOkO a0) fun r4=>
  cond (r4)
  (k3 (addrOk a1))
  (k3 false)
def spec_Want.raw (a0:G.Chan):Option (G.Chan × Bool):=
  Option.bind (cpy a0) fun r1=>
  joinK (fun (y2:Bool)=>
  cond (y2)
  (some (r1,false))
  (Option.bind (deriveO a0.Cur.Key [114,101,107,101,121]) fun r5=>
  some ((⟨r1.Role,r1.Sn,r1.Cur,r1.Old,r1.HasOld,r1.Until,r5⟩:G.Chan),true))) fun k3=>
  Option.bind (chanOkO a0) fun r4=>
  cond (!r4)
  (k3 true)
  (cond (a0.Role !=0)
  (k3 true)
  (cond (decide ((a0.Next.length:Int)>0))
  (k3 true)
  (k3 (a0.Cur.N==4294967295))))
def spec_ClientRekey.raw (a0:G.Client) (a1:Int):Option (G.Client × (List G.Frame) × (List G.Note) × Int):=
  Option.bind (cpy a0) fun r1=>
  joinK (fun (y2:Bool)=>
  cond (y2)
  (some (r1,[],[],1))
  (joinK (fun (y5:Bool)=>
  cond (y5)
  (some (r1,[],[],6))
  (Option.bind (spec_Want.raw a0.C) fun r7=>
  Option.bind (spec_AskRekey.raw r7.1) fun r8=>
  joinK (fun (y9:Bool)=>
  cond (y9)
  (some (r1,[],[],5))
  (Option.bind (spec_TimerSet.raw a1) fun r11=>
  Option.bind (spec_l19Made.raw r8.1 r8.2.1) fun r12=>
  some ((⟨r1.Id,r1.Psk,r1.At,r1.St,r1.Cn,r1.Fin,r8.1,r1.T,r11,r1.Last⟩:G.Client),[r8.2.1],[r12],0))) fun k10=>
  cond (!r7.2)
  (k10 true)
  (k10 (r8.2.2 !=0)))) fun k6=>
  cond (a0.St !=3)
  (k6 true)
  (k6 (decide ((a0.C.Next.length:Int)>0))))) fun k3=>
  Option.bind (clientOkO a0) fun r4=>
  cond (!r4)
  (k3 true)
  (k3 (!(inR a1 0 1000000)))
def spec_Gain.raw (a0:List G.Credit) (a1:G.Addr) (a2:Int):Option (List G.Credit):=
  cond (decide (([]:List G.Credit).length+a0.length≤LIM)) (joinK (fun (y1:Bool)=>
  cond (y1)
  (some ([]++a0))
  (cond (decide ((cAt a0 a1)<0))
  (cond ((a0.length:Int)==8)
  (some ([]++a0))
  (cond (decide (([]++a0).length+[(⟨a1,a2,0⟩:G.Credit)].length≤LIM)) (some (([]++a0)++[(⟨a1,a2,0⟩:G.Credit)])) none))
  (cond (decide (0≤(cAt a0 a1))&&decide ((cAt a0 a1)<(([]++a0).length:Int))) (Option.bind (([]++a0)[(cAt a0 a1).toNat]?) fun e3=>
  cond (decide (0≤(cAt a0 a1))&&decide ((cAt a0 a1)<(([]++a0).length:Int))) (Option.bind (([]++a0)[(cAt a0 a1).toNat]?) fun e4=>
  let l5:List G.Credit:=List.set ([]++a0) ((cAt a0 a1).toNat) (⟨e4.A,iadd .i64 e3.Got a2,e4.Sent⟩:G.Credit)
  cond (decide (0≤(cAt a0 a1))&&decide ((cAt a0 a1)<(l5.length:Int))) (Option.bind (l5[(cAt a0 a1).toNat]?) fun e6=>
  joinK (fun (y7:(List G.Credit))=>
  some y7) fun k8=>
  cond (decide (e6.Got>1000000))
  (cond (decide (0≤(cAt a0 a1))&&decide ((cAt a0 a1)<(l5.length:Int))) (Option.bind (l5[(cAt a0 a1).toNat]?) fun e9=>
  let l10:List G.Credit:=List.set l5 ((cAt a0 a1).toNat) (⟨e9.A,1000000,e9.Sent⟩:G.Credit)
  k8 l10) none)
  (k8 l5)) none) none) none))) fun k2=>
  cond (!(creditsOk a0))
  (k2 true)
  (cond (!(addrOk a1))
  (k2 true)
  (k2 (!(inR a2 0 1000000))))) none
def spec_GetFrame.raw (a0:List UInt8):Option (G.Frame × Bool):=
  cond ((a0.length:Int)==0)
  (some ((⟨0,0,[],[],0,[],[],0,0,[],[]⟩:G.Frame),false))
  (Option.bind (idxI a0 0) fun e1=>
  let x2:Int:=IntKind.wrap .i64 ((e1.toNat:Nat):Int)
  joinK (fun (y3:G.Frame × G.Frame)=>
  Option.bind (spec_PutFrame.raw y3.2) fun r28=>
  cond (Nat.ble r28.length LIM) (cond (Nat.ble a0.length LIM) (cond (!(r28==a0))
  (some ((⟨0,0,[],[],0,[],[],0,0,[],[]⟩:G.Frame),false))
  (some (y3.2,true))) none) none) fun k4=>
  cond (x2==1)
  (cond ((a0.length:Int) !=34)
  (some ((⟨0,0,[],[],0,[],[],0,0,[],[]⟩:G.Frame),false))
  (Option.bind (idxI a0 1) fun e5=>
  let x6:Int:=IntKind.wrap .i64 ((e5.toNat:Nat):Int)
  cond (decide (0≤(2:Int))&&decide ((2:Int)≤14)&&decide (14≤(a0.length:Int))) (let l7:List UInt8:=List.take 12 (List.drop 2 a0)
  cond (decide (([]:List UInt8).length+l7.length≤LIM)) (k4 ((⟨0,0,[],[],0,[],[],0,0,[],[]⟩:G.Frame),(⟨x2,x6,[]++l7,[],0,[],[],0,0,[],[]⟩:G.Frame))) none) none))
  (joinK (fun (y8:G.Frame × G.Frame)=>
  k4 (y8.1,y8.2)) fun k9=>
  cond (x2==2)
  (cond ((a0.length:Int) !=45)
  (some ((⟨0,0,[],[],0,[],[],0,0,[],[]⟩:G.Frame),false))
  (cond (decide (0≤(1:Int))&&decide ((1:Int)≤13)&&decide (13≤(a0.length:Int))) (let l10:List UInt8:=List.take 12 (List.drop 1 a0)
  cond (decide (([]:List UInt8).length+l10.length≤LIM)) (cond (decide (0≤(13:Int))&&decide ((13:Int)≤25)&&decide (25≤(a0.length:Int))) (let l11:List UInt8:=List.take 12 (List.drop 13 a0)
  cond (decide (([]:List UInt8).length+l11.length≤LIM)) (Option.bind (getNO a0 25 4) fun r12=>
  cond (decide (0≤(29:Int))&&decide ((29:Int)≤(a0.length:Int))&&decide ((a0.length:Int)≤(a0.length:Int))) (let l13:List UInt8:=List.take (((a0.length:Int) - 29).toNat) (List.drop 29 a0)
  cond (decide (([]:List UInt8).length+l13.length≤LIM)) (k9 ((⟨0,0,[],[],0,[],[],0,0,[],[]⟩:G.Frame),(⟨x2,0,[]++l10,[]++l11,r12.1,[]++l13,[],0,0,[],[]⟩:G.Frame))) none) none) none) none) none) none))
  (joinK (fun (y14:G.Frame × G.Frame)=>
  k9 (y14.1,y14.2)) fun k15=>
  cond (x2==3)
  (cond ((a0.length:Int) !=62)
  (some ((⟨0,0,[],[],0,[],[],0,0,[],[]⟩:G.Frame),false))
  (Option.bind (idxI a0 1) fun e16=>
  let x17:Int:=IntKind.wrap .i64 ((e16.toNat:Nat):Int)
  cond (decide (0≤(2:Int))&&decide ((2:Int)≤14)&&decide (14≤(a0.length:Int))) (let l18:List UInt8:=List.take 12 (List.drop 2 a0)
  cond (decide (([]:List UInt8).length+l18.length≤LIM)) (cond (decide (0≤(14:Int))&&decide ((14:Int)≤26)&&decide (26≤(a0.length:Int))) (let l19:List UInt8:=List.take 12 (List.drop 14 a0)
  cond (decide (([]:List UInt8).length+l19.length≤LIM)) (Option.bind (getNO a0 26 4) fun r20=>
  cond (decide (0≤(30:Int))&&decide ((30:Int)≤46)&&decide (46≤(a0.length:Int))) (let l21:List UInt8:=List.take 16 (List.drop 30 a0)
  cond (decide (([]:List UInt8).length+l21.length≤LIM)) (cond (decide (0≤(46:Int))&&decide ((46:Int)≤(a0.length:Int))&&decide ((a0.length:Int)≤(a0.length:Int))) (let l22:List UInt8:=List.take (((a0.length:Int) - 46).toNat) (List.drop 46 a0)
  cond (decide (([]:List UInt8).length+l22.length≤LIM)) (k15 ((⟨0,0,[],[],0,[],[],0,0,[],[]⟩:G.Frame),(⟨x2,x17,[]++l18,[]++l19,r20.1,[]++l21,[]++l22,0,0,[],[]⟩:G.Frame))) none) none) none) none) none) none) none) none))
  (cond (decide ((a0.length:Int)<39))
  (some ((⟨0,0,[],[],0,[],[],0,0,[],[]⟩:G.Frame),false))
  (cond (decide (0≤(1:Int))&&decide ((1:Int)≤13)&&decide (13≤(a0.length:Int))) (let l23:List UInt8:=List.take 12 (List.drop 1 a0)
  cond (decide (([]:List UInt8).length+l23.length≤LIM)) (Option.bind (getNO a0 13 4) fun r24=>
  Option.bind (getNO a0 17 6) fun r25=>
  cond (decide (0≤(23:Int))&&decide ((23:Int)≤39)&&decide (39≤(a0.length:Int))) (let l26:List UInt8:=List.take 16 (List.drop 23 a0)
  cond (decide (([]:List UInt8).length+l26.length≤LIM)) (cond (decide (0≤(39:Int))&&decide ((39:Int)≤(a0.length:Int))&&decide ((a0.length:Int)≤(a0.length:Int))) (let l27:List UInt8:=List.take (((a0.length:Int) - 39).toNat) (List.drop 39 a0)
  cond (decide (([]:List UInt8).length+l27.length≤LIM)) (k15 ((⟨0,0,[],[],0,[],[],0,0,[],[]⟩:G.Frame),(⟨x2,0,[],[]++l23,0,[],[],r24.1,r25.1,[]++l27,[]++l26⟩:G.Frame))) none) none) none) none) none) none)))))
def spec_AtOf.raw (a0:G.Tab) (a1:G.Addr):Option Bool:=
  joinK (fun (y1:Unit)=>
  some false) fun k2=>
  loopK FU (fun (x3:Int) k4=>
  cond (decide (x3<(a0.L.length:Int)))
  (joinK (fun (y5:Bool)=>
  cond (y5)
  (some true)
  (k4 (iadd .i64 x3 1))) fun k6=>
  Option.bind (idxI a0.L x3) fun e7=>
  cond (!e7.Dead)
  (Option.bind (idxI a0.L x3) fun e8=>
  let x9:Bool:=cond (e8.P.At.Host==a1.Host) (cond (e8.P.At.Port==a1.Port) (true) false) false
  k6 x9)
  (k6 false))
  (k2 ())) 0
def spec_RoomFor.raw (a0:List G.Credit) (a1:G.Addr):Option Int:=
  joinK (fun (y1:Bool)=>
  cond (y1)
  (some 0)
  (Option.bind (idxI a0 (cAt a0 a1)) fun e3=>
  Option.bind (idxI a0 (cAt a0 a1)) fun e4=>
  some (isub .i64 (imul .i64 3 e3.Got) e4.Sent))) fun k2=>
  cond (!(creditsOk a0))
  (k2 true)
  (k2 (decide ((cAt a0 a1)<0)))
def spec_MayAsk.raw (a0:G.Server) (a1:G.Addr) (a2:Int):Option Bool:=
  joinK (fun (y1:Bool)=>
  some y1) fun k2=>
  Option.bind (spec_AtOf.raw a0.T a1) fun r3=>
  cond (r3)
  (k2 true)
  (Option.bind (spec_RoomFor.raw a0.Cr a1) fun r4=>
  k2 (decide (r4≥a2)))
def spec_PutAddr.raw (a0:List UInt8) (a1:G.Addr):Option (List UInt8):=
  cond (!(addrOk a1))
  (cond (decide (([]:List UInt8).length+a0.length≤LIM)) (some ([]++a0)) none)
  (Option.bind (putNO a0 a1.Host 4) fun r1=>
  Option.bind (putNO r1 a1.Port 2) fun r2=>
  some r2)
def spec_MintBody.raw (a0:G.Addr) (a1:Int) (a2:List UInt8) (a3:List UInt8) (a4:Int):Option (List UInt8):=
  joinK (fun (y1:Bool)=>
  cond (y1)
  (some [])
  (Option.bind (spec_PutAddr.raw [UInt8.ofNat (99:Int).toNat] a0) fun r3=>
  cond (decide (r3.length+[UInt8.ofNat (IntKind.wrap .u8 a1:Int).toNat].length≤LIM)) (cond (decide ((r3++[UInt8.ofNat (IntKind.wrap .u8 a1:Int).toNat]).length+a2.length≤LIM)) (let x4:List UInt8:=(r3++[UInt8.ofNat (IntKind.wrap .u8 a1:Int).toNat])++a2
  cond (decide (x4.length+a3.length≤LIM)) (Option.bind (putNO (x4++a3) a4 4) fun r5=>
  some r5) none) none) none)) fun k2=>
  cond (!(addrOk a0))
  (k2 true)
  (cond (!(inR a1 1 9))
  (k2 true)
  (cond ((a2.length:Int) !=12)
  (k2 true)
  (cond ((a3.length:Int) !=12)
  (k2 true)
  (k2 (!(inR a4 0 1000000))))))
def spec_Mint.raw (a0:G.Jar) (a1:G.Addr) (a2:Int) (a3:List UInt8) (a4:List UInt8) (a5:Int):Option (List UInt8):=
  Option.bind (spec_MintBody.raw a1 a2 a3 a4 a5) fun r1=>
  joinK (fun (y2:Bool)=>
  cond (y2)
  (some [])
  (Option.bind (spec_Tag.raw a0.Secret r1) fun r4=>
  some r4)) fun k3=>
  cond (!(jarOk a0))
  (k3 true)
  (k3 ((r1.length:Int)==0))
def spec_Fresh.raw (a0:Int) (a1:Int):Option Bool:=
  joinK (fun (y1:Bool)=>
  some y1) fun k2=>
  cond ((inR a0 0 1000000))
  (cond ((inR a1 0 1000000))
  (k2 (inR (isub .i64 a0 a1) 0 10))
  (k2 false))
  (k2 false)
def spec_Diff.raw (a0:List UInt8) (a1:List UInt8):Option Int:=
  cond ((a0.length:Int) !=(a1.length:Int))
  (some (-1))
  (joinK (fun (y1:Int)=>
  some y1) fun k2=>
  loopK FU (fun (x3:Int × Int) k4=>
  cond (decide (x3.2<(a0.length:Int)))
  (Option.bind (idxI a0 x3.2) fun e5=>
  Option.bind (idxI a1 x3.2) fun e6=>
  let x7:Int:=ixor .u8 ((e5.toNat:Nat):Int) ((e6.toNat:Nat):Int)
  k4 ((ior .i64 x3.1 (IntKind.wrap .i64 x7)),(iadd .i64 x3.2 1)))
  (k2 x3.1)) (0,0))
def spec_SameTag.raw (a0:List UInt8) (a1:List UInt8):Option Bool:=
  joinK (fun (y1:Bool)=>
  some y1) fun k2=>
  cond ((a0.length:Int)==16)
  (Option.bind (spec_Diff.raw a0 a1) fun r3=>
  k2 (r3==0))
  (k2 false)
def spec_Judge.raw (a0:G.Jar) (a1:Int) (a2:G.Addr) (a3:G.Frame):Option Int:=
  joinK (fun (y1:Bool)=>
  cond (y1)
  (some 1)
  (Option.bind (spec_Fresh.raw a1 a3.Tick) fun r3=>
  cond (!r3)
  (some 9)
  (Option.bind (spec_Mint.raw a0 a2 a3.Id a3.Cn a3.Sn a3.Tick) fun r4=>
  Option.bind (spec_SameTag.raw a3.Cookie r4) fun r5=>
  cond (!r5)
  (some 2)
  (some 0)))) fun k2=>
  cond (!(jarOk a0))
  (k2 true)
  (cond (!(inR a1 0 1000000))
  (k2 true)
  (cond (!(addrOk a2))
  (k2 true)
  (cond (!(frameOk a3))
  (k2 true)
  (k2 (a3.Kind !=3)))))
def spec_Extract.raw (a0:List UInt8) (a1:List UInt8):Option (List UInt8):=
  let r1:(List UInt8):=hmac a0 a1
  some r1
def spec_FinishKey.raw (a0:List UInt8):Option (List UInt8):=
  cond (!(pskOk a0))
  (some [])
  (let x1:List UInt8:=[UInt8.ofNat (114:Int).toNat,UInt8.ofNat (111:Int).toNat,UInt8.ofNat (97:Int).toNat,UInt8.ofNat (109:Int).toNat]
  Option.bind (spec_Extract.raw x1 a0) fun r2=>
  Option.bind (deriveO r2 [102,105,110,105,115,104]) fun r3=>
  some r3)
def spec_ProofBody.raw (a0:Int) (a1:List UInt8) (a2:List UInt8) (a3:Int) (a4:List UInt8):Option (List UInt8):=
  joinK (fun (y1:Bool)=>
  cond (y1)
  (some [])
  (let x3:List UInt8:=[UInt8.ofNat (102:Int).toNat,UInt8.ofNat (IntKind.wrap .u8 a0:Int).toNat]
  cond (decide (x3.length+a1.length≤LIM)) (cond (decide ((x3++a1).length+a2.length≤LIM)) (Option.bind (putNO ((x3++a1)++a2) a3 4) fun r4=>
  cond (decide (r4.length+a4.length≤LIM)) (some (r4++a4)) none) none) none)) fun k2=>
  cond (!(inR a0 1 9))
  (k2 true)
  (cond ((a1.length:Int) !=12)
  (k2 true)
  (cond ((a2.length:Int) !=12)
  (k2 true)
  (cond (!(inR a3 0 1000000))
  (k2 true)
  (k2 ((a4.length:Int) !=16)))))
def spec_Proof.raw (a0:List UInt8) (a1:Int) (a2:List UInt8) (a3:List UInt8) (a4:Int) (a5:List UInt8):Option (List UInt8):=
  Option.bind (spec_FinishKey.raw a0) fun r1=>
  Option.bind (spec_ProofBody.raw a1 a2 a3 a4 a5) fun r2=>
  joinK (fun (y3:Bool)=>
  cond (y3)
  (some [])
  (Option.bind (spec_Tag.raw r1 r2) fun r5=>
  some r5)) fun k4=>
  cond ((r1.length:Int)==0)
  (k4 true)
  (k4 ((r2.length:Int)==0))
def spec_ProofOk.raw (a0:List UInt8) (a1:G.Frame):Option Bool:=
  joinK (fun (y1:Bool)=>
  some y1) fun k2=>
  cond ((frameOk a1))
  (cond (a1.Kind==3)
  (Option.bind (spec_Proof.raw a0 a1.Id a1.Cn a1.Sn a1.Tick a1.Cookie) fun r3=>
  Option.bind (spec_SameTag.raw a1.Proof r3) fun r4=>
  k2 r4)
  (k2 false))
  (k2 false)
def spec_RootKey.raw (a0:List UInt8) (a1:List UInt8) (a2:List UInt8):Option (List UInt8):=
  joinK (fun (y1:Bool)=>
  cond (y1)
  (some [])
  (cond (decide (([]:List UInt8).length+a1.length≤LIM)) (cond (decide (([]++a1).length+a2.length≤LIM)) (Option.bind (spec_Extract.raw (([]++a1)++a2) a0) fun r3=>
  some r3) none) none)) fun k2=>
  cond (!(pskOk a0))
  (k2 true)
  (cond ((a1.length:Int) !=12)
  (k2 true)
  (k2 ((a2.length:Int) !=12)))
def spec_FirstKey.raw (a0:List UInt8):Option (List UInt8):=
  cond ((a0.length:Int) !=32)
  (some [])
  (Option.bind (deriveO a0 [101,112,111,99,104]) fun r1=>
  some r1)
def spec_Chain.raw (a0:List UInt8) (a1:Int):Option (List UInt8):=
  cond (!(inR a1 0 64))
  (some [])
  (cond (decide (([]:List UInt8).length+a0.length≤LIM)) (joinK (fun (y1:(List UInt8))=>
  some y1) fun k2=>
  loopK FU (fun (x3:(List UInt8) × Int) k4=>
  cond (decide (x3.2<a1))
  (Option.bind (deriveO x3.1 [114,101,107,101,121]) fun r5=>
  k4 (r5,(iadd .i64 x3.2 1)))
  (k2 x3.1)) (([]++a0),0)) none)
def spec_EpochKey.raw (a0:List UInt8) (a1:List UInt8) (a2:List UInt8) (a3:Int):Option (List UInt8):=
  Option.bind (spec_RootKey.raw a0 a1 a2) fun r1=>
  Option.bind (spec_FirstKey.raw r1) fun r2=>
  cond ((r2.length:Int)==0)
  (some r2)
  (Option.bind (spec_Chain.raw r2 a3) fun r3=>
  some r3)
def spec_WinNew.raw:Option G.Win:=
  joinK (fun (y1:G.Win)=>
  some y1) fun k2=>
  loopK FU (fun (x3:Int × G.Win) k4=>
  cond (decide (x3.1<32))
  (cond (decide (x3.2.Bits.length+[0].length≤LIM)) (k4 ((iadd .i64 x3.1 1),(⟨x3.2.Top,x3.2.Bits++[0]⟩:G.Win))) none)
  (k2 x3.2)) (0,(⟨(-1),[]⟩:G.Win))
def spec_EpNew.raw (a0:Int) (a1:List UInt8):Option G.Ep:=
  joinK (fun (y1:Bool)=>
  cond (y1)
  (some (⟨0,[],0,(⟨0,[]⟩:G.Win)⟩:G.Ep))
  (cond (decide (([]:List UInt8).length+a1.length≤LIM)) (Option.bind (spec_WinNew.raw) fun r3=>
  some (⟨a0,[]++a1,0,r3⟩:G.Ep)) none)) fun k2=>
  cond (!(inR a0 0 4294967295))
  (k2 true)
  (k2 ((a1.length:Int) !=32))
def spec_ChanNew.raw (a0:Int) (a1:List UInt8) (a2:List UInt8):Option G.Chan:=
  joinK (fun (y1:Bool)=>
  cond (y1)
  (some (⟨0,[],(⟨0,[],0,(⟨0,[]⟩:G.Win)⟩:G.Ep),(⟨0,[],0,(⟨0,[]⟩:G.Win)⟩:G.Ep),false,0,[]⟩:G.Chan))
  (cond (decide (([]:List UInt8).length+a1.length≤LIM)) (Option.bind (spec_EpNew.raw 0 a2) fun r3=>
  some (⟨a0,[]++a1,r3,(⟨0,[],0,(⟨0,[]⟩:G.Win)⟩:G.Ep),false,0,[]⟩:G.Chan)) none)) fun k2=>
  cond (!(inR a0 0 1))
  (k2 true)
  (cond ((a1.length:Int) !=12)
  (k2 true)
  (k2 ((a2.length:Int) !=32)))
def spec_PathsNew.raw (a0:G.Addr):Option G.Paths:=
  some (⟨a0,[]⟩:G.Paths)
def spec_SessNew.raw (a0:List UInt8) (a1:Int) (a2:G.Addr) (a3:G.Frame):Option G.Sess:=
  joinK (fun (y1:Bool)=>
  cond (y1)
  (some (⟨0,[],[],(⟨0,[],(⟨0,[],0,(⟨0,[]⟩:G.Win)⟩:G.Ep),(⟨0,[],0,(⟨0,[]⟩:G.Win)⟩:G.Ep),false,0,[]⟩:G.Chan),(⟨(⟨0,0⟩:G.Addr),[]⟩:G.Paths),0,0,false⟩:G.Sess))
  (cond (decide (([]:List UInt8).length+a3.Cn.length≤LIM)) (cond (decide (([]:List UInt8).length+a3.Sn.length≤LIM)) (Option.bind (spec_EpochKey.raw a0 a3.Cn a3.Sn 0) fun r3=>
  Option.bind (spec_ChanNew.raw 1 a3.Sn r3) fun r4=>
  Option.bind (spec_PathsNew.raw a2) fun r5=>
  some (⟨a3.Id,[]++a3.Cn,[]++a3.Sn,r4,r5,a3.Tick,a1,false⟩:G.Sess)) none) none)) fun k2=>
  cond (!(pskOk a0))
  (k2 true)
  (cond (!(inR a1 0 1000000))
  (k2 true)
  (cond (!(addrOk a2))
  (k2 true)
  (cond (!(frameOk a3))
  (k2 true)
  (k2 (a3.Kind !=3)))))
def spec_AddSess.raw (a0:G.Tab) (a1:G.Sess):Option (G.Tab × Int):=
  Option.bind (cpy a0) fun r1=>
  joinK (fun (y2:Bool)=>
  cond (y2)
  (some (r1,1))
  (Option.bind (findSnO a0 a1.Sn) fun r6=>
  cond (decide (r6≥0))
  (some (r1,3))
  (joinK (fun (y7:Bool)=>
  cond (y7)
  (some (r1,7))
  (Option.bind (cpy a1) fun r10=>
  cond (decide (r1.L.length+[r10].length≤LIM)) (some ((⟨r1.Cap,r1.L++[r10]⟩:G.Tab),0)) none)) fun k8=>
  Option.bind (liveO a0) fun r9=>
  cond (r9==a0.Cap)
  (k8 true)
  (k8 ((a0.L.length:Int)==12))))) fun k3=>
  Option.bind (tabOkO a0) fun r4=>
  cond (!r4)
  (k3 true)
  (Option.bind (sessOkO a1) fun r5=>
  cond (!r5)
  (k3 true)
  (k3 a1.Dead))
def spec_Took.raw (a0:List UInt8) (a1:List UInt8) (a2:List UInt8):Option G.Note:=
  cond (decide (([]:List UInt8).length+a0.length≤LIM)) (cond (decide (([]:List UInt8).length+a1.length≤LIM)) (cond (decide (([]:List UInt8).length+a2.length≤LIM)) (some (⟨16,0,0,[],[]++a1,0,0,[]++a2,[]++a0,(⟨0,0⟩:G.Addr),0⟩:G.Note)) none) none) none
def spec_Ack.raw (a0:G.Chan):Option (G.Chan × G.Frame × Int):=
  joinK (fun (y1:Bool)=>
  cond (y1)
  (Option.bind (cpy a0) fun r4=>
  some (r4,(⟨0,0,[],[],0,[],[],0,0,[],[]⟩:G.Frame),6))
  (Option.bind (spec_RekeyBody.raw a0.Cur.N) fun r5=>
  Option.bind (spec_ChanSeal.raw a0 8 r5) fun r6=>
  some (r6.1,r6.2.1,r6.2.2))) fun k2=>
  Option.bind (chanOkO a0) fun r3=>
  cond (!r3)
  (k2 true)
  (k2 (a0.Role !=1))
def spec_SessAck.raw (a0:G.Sess):Option (G.Sess × (List G.Out) × (List G.Note)):=
  Option.bind (cpy a0) fun r1=>
  joinK (fun (y2:Bool)=>
  cond (y2)
  (some (r1,[],[]))
  (Option.bind (spec_Ack.raw a0.C) fun r5=>
  cond (r5.2.2 !=0)
  (some (r1,[],[]))
  (Option.bind (spec_l19Made.raw r5.1 r5.2.1) fun r6=>
  some ((⟨r1.Id,r1.Cn,r1.Sn,r5.1,r1.P,r1.Tick,r1.Last,r1.Dead⟩:G.Sess),[(⟨a0.P.At,r5.2.1⟩:G.Out)],[r6])))) fun k3=>
  Option.bind (sessOkO a0) fun r4=>
  cond (!r4)
  (k3 true)
  (cond (a0.Dead)
  (k3 true)
  (k3 (a0.C.Cur.N !=0)))
def spec_l8Least.raw (a0:Int):Option Int:=
  cond (decide (a0<1024))
  (some 0)
  (some (iadd .i64 (isub .i64 a0 1024) 1))
def spec_WinMay.raw (a0:G.Win) (a1:Int):Option Bool:=
  joinK (fun (y1:Bool)=>
  cond (y1)
  (some false)
  (joinK (fun (y3:Bool)=>
  some y3) fun k4=>
  cond (decide (a1>a0.Top))
  (k4 true)
  (Option.bind (spec_l8Least.raw a0.Top) fun r5=>
  cond (decide (a1≥r5))
  (Option.bind (bitO a0 a1) fun r6=>
  k4 (!r6))
  (k4 false)))) fun k2=>
  cond (!(winOk a0))
  (k2 true)
  (k2 (!(inR a1 0 281474976710655)))
def spec_Unseal.raw (a0:List UInt8) (a1:Int) (a2:G.Frame):Option ((List UInt8) × Bool):=
  Option.bind (spec_TagInput.raw a1 a2) fun r1=>
  joinK (fun (y2:Bool)=>
  cond (y2)
  (some ([],false))
  (Option.bind (spec_HeadOf.raw a1 a2.Sn a2.Epoch a2.Seq) fun r6=>
  Option.bind (spec_Mix.raw a0 r6 a2.Body) fun r7=>
  some (r7,true))) fun k3=>
  cond ((a0.length:Int) !=32)
  (k3 true)
  (cond ((r1.length:Int)==0)
  (k3 true)
  (Option.bind (spec_Tag.raw a0 r1) fun r4=>
  Option.bind (spec_SameTag.raw a2.Tag r4) fun r5=>
  k3 (!r5)))
def spec_WinAdd.raw (a0:G.Win) (a1:Int):Option (G.Win × Bool):=
  Option.bind (cpy a0) fun r1=>
  Option.bind (spec_WinMay.raw a0 a1) fun r2=>
  cond (!r2)
  (some (r1,false))
  (joinK (fun (y3:G.Win)=>
  cond (decide (0≤iquo .i64 (irem .i64 a1 1024) 32)&&decide (iquo .i64 (irem .i64 a1 1024) 32<(y3.Bits.length:Int))) (Option.bind (y3.Bits[(iquo .i64 (irem .i64 a1 1024) 32).toNat]?) fun e13=>
  cond (decide ((irem .i64 (irem .i64 a1 1024) 32)<0)) none (let x14:Int:=ishl .i64 1 (irem .i64 (irem .i64 a1 1024) 32)
  cond (decide (0≤iquo .i64 (irem .i64 a1 1024) 32)&&decide (iquo .i64 (irem .i64 a1 1024) 32<(y3.Bits.length:Int))) (Option.bind (y3.Bits[(iquo .i64 (irem .i64 a1 1024) 32).toNat]?) fun e15=>
  let l16:List Int:=List.set y3.Bits ((iquo .i64 (irem .i64 a1 1024) 32).toNat) (ior .i64 e13 x14)
  joinK (fun (y17:G.Win)=>
  some (y17,true)) fun k18=>
  cond (decide (a1>a0.Top))
  (k18 (⟨a1,l16⟩:G.Win))
  (k18 (⟨y3.Top,l16⟩:G.Win))) none)) none) fun k4=>
  loopK FU (fun (x5:Int × Int × G.Win) k6=>
  joinK (fun (y7:Bool)=>
  cond (y7)
  (cond (decide (0≤iquo .i64 (irem .i64 x5.2.1 1024) 32)&&decide (iquo .i64 (irem .i64 x5.2.1 1024) 32<(x5.2.2.Bits.length:Int))) (Option.bind (x5.2.2.Bits[(iquo .i64 (irem .i64 x5.2.1 1024) 32).toNat]?) fun e9=>
  cond (decide ((irem .i64 (irem .i64 x5.2.1 1024) 32)<0)) none (let x10:Int:=ishl .i64 1 (irem .i64 (irem .i64 x5.2.1 1024) 32)
  cond (decide (0≤iquo .i64 (irem .i64 x5.2.1 1024) 32)&&decide (iquo .i64 (irem .i64 x5.2.1 1024) 32<(x5.2.2.Bits.length:Int))) (Option.bind (x5.2.2.Bits[(iquo .i64 (irem .i64 x5.2.1 1024) 32).toNat]?) fun e11=>
  let l12:List Int:=List.set x5.2.2.Bits ((iquo .i64 (irem .i64 x5.2.1 1024) 32).toNat) (iandNot .i64 e9 x10)
  k6 ((iadd .i64 x5.1 1),(iadd .i64 x5.2.1 1),(⟨x5.2.2.Top,l12⟩:G.Win))) none)) none)
  (k4 x5.2.2)) fun k8=>
  cond (decide (x5.2.1≤a1))
  (k8 (decide (x5.1<1024)))
  (k8 false)) (0,(iadd .i64 a0.Top 1),r1))
def spec_EpOpen.raw (a0:G.Ep) (a1:Int) (a2:G.Frame):Option (G.Ep × (List UInt8) × Int):=
  Option.bind (cpy a0) fun r1=>
  joinK (fun (y2:Bool)=>
  cond (y2)
  (some (r1,[],1))
  (Option.bind (spec_WinMay.raw a0.Win a2.Seq) fun r5=>
  cond (!r5)
  (some (r1,[],3))
  (Option.bind (spec_Unseal.raw a0.Key a1 a2) fun r6=>
  cond (!r6.2)
  (some (r1,[],2))
  (Option.bind (spec_WinAdd.raw a0.Win a2.Seq) fun r7=>
  some ((⟨r1.N,r1.Key,r1.Seq,r7.1⟩:G.Ep),r6.1,0))))) fun k3=>
  cond (!(epOk a0))
  (k3 true)
  (Option.bind (spec_TagInput.raw a1 a2) fun r4=>
  cond ((r4.length:Int)==0)
  (k3 true)
  (k3 (a2.Epoch !=a0.N)))
def spec_ChanOpen.raw (a0:G.Chan) (a1:Int) (a2:G.Frame):Option (G.Chan × (List UInt8) × Int):=
  Option.bind (cpy a0) fun r1=>
  joinK (fun (y2:Bool)=>
  cond (y2)
  (some (r1,[],1))
  (Option.bind (sameO a2.Sn a0.Sn) fun r5=>
  cond (!r5)
  (some (r1,[],8))
  (cond (a2.Epoch==a0.Cur.N)
  (Option.bind (spec_EpOpen.raw a0.Cur (isub .i64 1 a0.Role) a2) fun r6=>
  cond (r6.2.2 !=0)
  (some (r1,[],r6.2.2))
  (joinK (fun (y7:Bool)=>
  joinK (fun (y9:G.Chan)=>
  some (y9,r6.2.1,0)) fun k10=>
  cond (y7)
  (k10 (⟨r1.Role,r1.Sn,r6.1,r1.Old,r1.HasOld,iadd .i64 a1 5,r1.Next⟩:G.Chan))
  (k10 (⟨r1.Role,r1.Sn,r6.1,r1.Old,r1.HasOld,r1.Until,r1.Next⟩:G.Chan))) fun k8=>
  cond (a0.HasOld)
  (k8 (a0.Until==(-1)))
  (k8 false)))
  (joinK (fun (y11:Bool)=>
  cond (y11)
  (joinK (fun (y13:Bool)=>
  cond (y13)
  (some (r1,[],9))
  (Option.bind (spec_EpOpen.raw a0.Old (isub .i64 1 a0.Role) a2) fun r15=>
  cond (r15.2.2 !=0)
  (some (r1,[],r15.2.2))
  (some ((⟨r1.Role,r1.Sn,r1.Cur,r15.1,r1.HasOld,r1.Until,r1.Next⟩:G.Chan),r15.2.1,0)))) fun k14=>
  cond (a0.Until !=(-1))
  (k14 (decide (a1>a0.Until)))
  (k14 false))
  (joinK (fun (y16:Bool)=>
  cond (y16)
  (Option.bind (spec_EpNew.raw (iadd .i64 a0.Cur.N 1) a0.Next) fun r18=>
  Option.bind (spec_EpOpen.raw r18 (isub .i64 1 a0.Role) a2) fun r19=>
  cond (r19.2.2 !=0)
  (some (r1,[],r19.2.2))
  (some ((⟨r1.Role,r1.Sn,r19.1,r1.Cur,true,iadd .i64 a1 5,[]⟩:G.Chan),r19.2.1,0)))
  (some (r1,[],8))) fun k17=>
  cond (decide ((a0.Next.length:Int)>0))
  (k17 (a2.Epoch==(iadd .i64 a0.Cur.N 1)))
  (k17 false))) fun k12=>
  cond (a0.HasOld)
  (k12 (a2.Epoch==a0.Old.N))
  (k12 false))))) fun k3=>
  Option.bind (chanOkO a0) fun r4=>
  cond (!r4)
  (k3 true)
  (cond (!(inR a1 0 1000000))
  (k3 true)
  (cond (!(frameOk a2))
  (k3 true)
  (k3 (!(isSealed a2.Kind)))))
def spec_KeyFor.raw (a0:G.Chan) (a1:Int):Option ((List UInt8) × Bool):=
  Option.bind (chanOkO a0) fun r1=>
  cond (!r1)
  (some ([],false))
  (joinK (fun (y2:Bool)=>
  cond (y2)
  (cond (decide (([]:List UInt8).length+a0.Old.Key.length≤LIM)) (some ([]++a0.Old.Key,true)) none)
  (cond (a1==a0.Cur.N)
  (cond (decide (([]:List UInt8).length+a0.Cur.Key.length≤LIM)) (some ([]++a0.Cur.Key,true)) none)
  (joinK (fun (y4:Bool)=>
  cond (y4)
  (cond (decide (([]:List UInt8).length+a0.Next.length≤LIM)) (some ([]++a0.Next,true)) none)
  (some ([],false))) fun k5=>
  cond (decide ((a0.Next.length:Int)>0))
  (k5 (a1==(iadd .i64 a0.Cur.N 1)))
  (k5 false)))) fun k3=>
  cond (a0.HasOld)
  (k3 (a1==a0.Old.N))
  (k3 false))
def spec_Answer.raw (a0:G.Paths) (a1:Int) (a2:G.Addr) (a3:List UInt8):Option (G.Paths × Bool):=
  Option.bind (candOfO a0 a2) fun r1=>
  joinK (fun (y2:Bool)=>
  cond (y2)
  (Option.bind (cpy a0) fun r5=>
  some (r5,false))
  (joinK (fun (y6:G.Paths)=>
  some (y6,true)) fun k7=>
  loopK FU (fun (x8:Int × G.Paths) k9=>
  cond (decide (x8.1<(a0.Cands.length:Int)))
  (Option.bind (idxI a0.Cands x8.1) fun e10=>
  let x11:Bool:=!(cond (e10.A.Host==a2.Host) (cond (e10.A.Port==a2.Port) (true) false) false)
  joinK (fun (y12:G.Paths)=>
  k9 ((iadd .i64 x8.1 1),y12)) fun k13=>
  cond (x11)
  (Option.bind (idxI a0.Cands x8.1) fun e14=>
  Option.bind (candCopyO e14) fun r15=>
  cond (decide (x8.2.Cands.length+[r15].length≤LIM)) (k13 (⟨x8.2.At,x8.2.Cands++[r15]⟩:G.Paths)) none)
  (k13 x8.2))
  (k7 x8.2)) (0,(⟨a2,[]⟩:G.Paths)))) fun k3=>
  cond (!r1.2)
  (k3 true)
  (cond (!(inR a1 0 1000000))
  (k3 true)
  (Option.bind (sameO r1.1.Draw a3) fun r4=>
  cond (!r4)
  (k3 true)
  (k3 (decide (a1>r1.1.Until)))))
def spec_Turn.raw (a0:G.Chan):Option (G.Chan × Bool):=
  Option.bind (cpy a0) fun r1=>
  joinK (fun (y2:Bool)=>
  cond (y2)
  (some (r1,false))
  (Option.bind (deriveO a0.Cur.Key [114,101,107,101,121]) fun r5=>
  Option.bind (spec_EpNew.raw (iadd .i64 a0.Cur.N 1) r5) fun r6=>
  some ((⟨r1.Role,r1.Sn,r6,r1.Cur,true,(-1),r1.Next⟩:G.Chan),true))) fun k3=>
  Option.bind (chanOkO a0) fun r4=>
  cond (!r4)
  (k3 true)
  (cond (a0.Role !=1)
  (k3 true)
  (k3 (a0.Cur.N==4294967295)))
def spec_HearRekey.raw (a0:G.Chan) (a1:Int) (a2:List UInt8):Option (G.Chan × Int):=
  Option.bind (cpy a0) fun r1=>
  joinK (fun (y2:Bool)=>
  cond (y2)
  (some (r1,6))
  (cond (a1==a0.Cur.N)
  (Option.bind (spec_Turn.raw a0) fun r7=>
  cond (!r7.2)
  (some (r1,6))
  (some (r7.1,0)))
  (cond (a1==(isub .i64 a0.Cur.N 1))
  (some (r1,0))
  (some (r1,6))))) fun k3=>
  Option.bind (chanOkO a0) fun r4=>
  cond (!r4)
  (k3 true)
  (cond (a0.Role !=1)
  (k3 true)
  (cond (!(inR a1 0 4294967294))
  (k3 true)
  (Option.bind (spec_RekeyBody.raw (iadd .i64 a1 1)) fun r5=>
  Option.bind (sameO a2 r5) fun r6=>
  k3 (!r6))))
def spec_Offer.raw (a0:G.Paths) (a1:Int) (a2:G.Addr) (a3:List UInt8):Option (G.Paths × Bool):=
  joinK (fun (y1:Bool)=>
  cond (y1)
  (Option.bind (cpy a0) fun r4=>
  some (r4,false))
  (Option.bind (spec_PathTick.raw a0 a1) fun r5=>
  joinK (fun (y6:G.Paths)=>
  cond ((r5.Cands.length:Int)==3)
  (Option.bind (cpy a0) fun r13=>
  some (r13,false))
  (cond (decide (([]:List UInt8).length+a3.length≤LIM)) (cond (decide (r5.Cands.length+[(⟨a2,[]++a3,iadd .i64 a1 6⟩:G.Cand)].length≤LIM)) (some ((⟨r5.At,r5.Cands++[(⟨a2,[]++a3,iadd .i64 a1 6⟩:G.Cand)]⟩:G.Paths),true)) none) none)) fun k7=>
  loopK FU (fun (x8:Int × G.Paths) k9=>
  cond (decide (x8.1<(r5.Cands.length:Int)))
  (cond (decide (0≤x8.1)&&decide (x8.1<(r5.Cands.length:Int))) (Option.bind (r5.Cands[x8.1.toNat]?) fun e10=>
  let x11:Bool:=cond (e10.A.Host==a2.Host) (cond (e10.A.Port==a2.Port) (true) false) false
  cond (x11)
  (Option.bind (cpy a0) fun r12=>
  some (r12,false))
  (k9 ((iadd .i64 x8.1 1),x8.2))) none)
  (k7 x8.2)) (0,(⟨(⟨0,0⟩:G.Addr),[]⟩:G.Paths)))) fun k2=>
  cond (!(pathsOk a0))
  (k2 true)
  (cond (!(inR a1 0 1000000))
  (k2 true)
  (cond (!(addrOk a2))
  (k2 true)
  (cond ((a3.length:Int) !=12)
  (k2 true)
  (let x3:Bool:=cond (a2.Host==a0.At.Host) (cond (a2.Port==a0.At.Port) (true) false) false
  k2 x3))))
def spec_SessHear.raw (a0:G.Sess) (a1:Int) (a2:G.Addr) (a3:G.Frame) (a4:List UInt8):Option (G.Sess × (List G.Out) × (List G.Note) × Bool):=
  Option.bind (cpy a0) fun r1=>
  joinK (fun (y2:Bool)=>
  cond (y2)
  (some (r1,[],[],false))
  (Option.bind (spec_ChanOpen.raw a0.C a1 a3) fun r5=>
  cond (r5.2.2 !=0)
  (some (r1,[],[],false))
  (Option.bind (spec_KeyFor.raw a0.C a3.Epoch) fun r6=>
  Option.bind (spec_TagInput.raw 0 a3) fun r7=>
  Option.bind (spec_Took.raw r6.1 a0.Sn r7) fun r8=>
  cond (decide (([]:List G.Note).length+[r8].length≤LIM)) (joinK (fun (y9:(List G.Out) × (List G.Note) × G.Sess)=>
  Option.bind (spec_Offer.raw y9.2.2.P a1 a2 a4) fun r30=>
  Option.bind (spec_ChanSeal.raw y9.2.2.C 5 a4) fun r31=>
  joinK (fun (y32:Bool)=>
  cond (y32)
  (some (y9.2.2,y9.1,y9.2.1,false))
  (cond (decide (y9.1.length+[(⟨a2,r31.2.1⟩:G.Out)].length≤LIM)) (Option.bind (spec_l19Made.raw r31.1 r31.2.1) fun r34=>
  cond (decide (y9.2.1.length+[r34].length≤LIM)) (some ((⟨y9.2.2.Id,y9.2.2.Cn,y9.2.2.Sn,r31.1,r30.1,y9.2.2.Tick,y9.2.2.Last,y9.2.2.Dead⟩:G.Sess),y9.1++[(⟨a2,r31.2.1⟩:G.Out)],y9.2.1++[r34],true)) none) none)) fun k33=>
  cond (!r30.2)
  (k33 true)
  (k33 (r31.2.2 !=0))) fun k10=>
  cond (a3.Kind==4)
  (cond (decide (([]:List UInt8).length+a0.Sn.length≤LIM)) (cond (decide (([]:List UInt8).length+r5.2.1.length≤LIM)) (let x11:List G.Note:=[(⟨6,0,0,[],[]++a0.Sn,a3.Epoch,a3.Seq,[]++r5.2.1,[],(⟨0,0⟩:G.Addr),a1⟩:G.Note)]
  cond (decide (([]++[r8]).length+x11.length≤LIM)) (k10 ([],(([]++[r8])++x11),(⟨r1.Id,r1.Cn,r1.Sn,r5.1,r1.P,r1.Tick,a1,r1.Dead⟩:G.Sess))) none) none) none)
  (joinK (fun (y12:(List G.Out) × (List G.Note) × G.Sess)=>
  k10 (y12.1,y12.2.1,y12.2.2)) fun k13=>
  cond (a3.Kind==6)
  (Option.bind (spec_Answer.raw r1.P a1 a2 r5.2.1) fun r14=>
  joinK (fun (y15:(List G.Note) × G.Sess)=>
  k13 ([],y15.1,y15.2)) fun k16=>
  cond (r14.2)
  (cond (decide (([]:List UInt8).length+a0.Sn.length≤LIM)) (cond (decide (([]:List UInt8).length+r5.2.1.length≤LIM)) (let x17:List G.Note:=[(⟨9,0,0,[],[]++a0.Sn,0,0,[]++r5.2.1,[],a2,a1⟩:G.Note)]
  cond (decide (([]++[r8]).length+x17.length≤LIM)) (k16 ((([]++[r8])++x17),(⟨r1.Id,r1.Cn,r1.Sn,r5.1,r14.1,r1.Tick,a1,r1.Dead⟩:G.Sess))) none) none) none)
  (k16 (([]++[r8]),(⟨r1.Id,r1.Cn,r1.Sn,r5.1,r1.P,r1.Tick,a1,r1.Dead⟩:G.Sess))))
  (joinK (fun (y18:(List G.Out) × (List G.Note) × G.Sess)=>
  k13 (y18.1,y18.2.1,y18.2.2)) fun k19=>
  cond (a3.Kind==7)
  (Option.bind (spec_HearRekey.raw r5.1 a3.Epoch r5.2.1) fun r20=>
  joinK (fun (y21:(List G.Out) × (List G.Note) × G.Sess)=>
  k19 (y21.1,y21.2.1,y21.2.2)) fun k22=>
  cond (r20.2==0)
  (joinK (fun (y23:(List G.Note))=>
  Option.bind (spec_Ack.raw r20.1) fun r26=>
  joinK (fun (y27:(List G.Out) × (List G.Note) × G.Sess)=>
  k22 (y27.1,y27.2.1,y27.2.2)) fun k28=>
  cond (r26.2.2==0)
  (cond (decide (([]:List G.Out).length+[(⟨r1.P.At,r26.2.1⟩:G.Out)].length≤LIM)) (Option.bind (spec_l19Made.raw r26.1 r26.2.1) fun r29=>
  cond (decide (y23.length+[r29].length≤LIM)) (k28 (([]++[(⟨r1.P.At,r26.2.1⟩:G.Out)]),(y23++[r29]),(⟨r1.Id,r1.Cn,r1.Sn,r26.1,r1.P,r1.Tick,a1,r1.Dead⟩:G.Sess))) none) none)
  (k28 ([],y23,(⟨r1.Id,r1.Cn,r1.Sn,r20.1,r1.P,r1.Tick,a1,r1.Dead⟩:G.Sess)))) fun k24=>
  cond (r20.1.Cur.N !=r5.1.Cur.N)
  (cond (decide (([]:List UInt8).length+a0.Sn.length≤LIM)) (cond (decide (([]:List UInt8).length+r20.1.Cur.Key.length≤LIM)) (let x25:List G.Note:=[(⟨10,0,1,[],[]++a0.Sn,r20.1.Cur.N,0,[],[]++r20.1.Cur.Key,(⟨0,0⟩:G.Addr),0⟩:G.Note)]
  cond (decide (([]++[r8]).length+x25.length≤LIM)) (k24 (([]++[r8])++x25)) none) none) none)
  (k24 ([]++[r8])))
  (k22 ([],([]++[r8]),(⟨r1.Id,r1.Cn,r1.Sn,r5.1,r1.P,r1.Tick,a1,r1.Dead⟩:G.Sess))))
  (k19 ([],([]++[r8]),(⟨r1.Id,r1.Cn,r1.Sn,r5.1,r1.P,r1.Tick,a1,r1.Dead⟩:G.Sess)))))) none))) fun k3=>
  Option.bind (sessOkO a0) fun r4=>
  cond (!r4)
  (k3 true)
  (cond (a0.Dead)
  (k3 true)
  (k3 (!(addrOk a2))))
def spec_SizeOf.raw (a0:G.Frame):Option Int:=
  Option.bind (spec_PutFrame.raw a0) fun r1=>
  some (r1.length:Int)
def spec_Spend.raw (a0:List G.Credit) (a1:G.Addr) (a2:Int):Option ((List G.Credit) × Bool):=
  cond (decide (([]:List G.Credit).length+a0.length≤LIM)) (joinK (fun (y1:Bool)=>
  cond (y1)
  (some ([]++a0,false))
  (cond (decide (0≤(cAt a0 a1))&&decide ((cAt a0 a1)<(([]++a0).length:Int))) (Option.bind (([]++a0)[(cAt a0 a1).toNat]?) fun e4=>
  cond (decide (0≤(cAt a0 a1))&&decide ((cAt a0 a1)<(([]++a0).length:Int))) (Option.bind (([]++a0)[(cAt a0 a1).toNat]?) fun e5=>
  let l6:List G.Credit:=List.set ([]++a0) ((cAt a0 a1).toNat) (⟨e5.A,e5.Got,iadd .i64 e4.Sent a2⟩:G.Credit)
  some (l6,true)) none) none)) fun k2=>
  cond (decide ((cAt a0 a1)<0))
  (k2 true)
  (cond (!(creditsOk a0))
  (k2 true)
  (Option.bind (spec_RoomFor.raw a0 a1) fun r3=>
  k2 (!(inR a2 0 r3))))) none
def spec_l22Out.raw (a0:G.Server) (a1:List G.Out):Option ((List G.Out) × G.Server):=
  joinK (fun (y1:(List G.Out) × G.Server)=>
  some (y1.1,y1.2)) fun k2=>
  loopK FU (fun (x3:(List G.Out) × Int × G.Server) k4=>
  cond (decide (x3.2.1<(a1.length:Int)))
  (joinK (fun (y5:(List G.Out) × G.Server)=>
  k4 (y5.1,(iadd .i64 x3.2.1 1),y5.2)) fun k6=>
  Option.bind (idxI a1 x3.2.1) fun e7=>
  Option.bind (spec_AtOf.raw x3.2.2.T e7.To) fun r8=>
  joinK (fun (y9:G.Server)=>
  Option.bind (idxI a1 x3.2.1) fun e15=>
  cond (decide (x3.1.length+[e15].length≤LIM)) (k6 ((x3.1++[e15]),y9)) none) fun k10=>
  cond (!r8)
  (Option.bind (idxI a1 x3.2.1) fun e11=>
  Option.bind (idxI a1 x3.2.1) fun e12=>
  Option.bind (spec_SizeOf.raw e12.F) fun r13=>
  Option.bind (spec_Spend.raw x3.2.2.Cr e11.To r13) fun r14=>
  cond (!r14.2)
  (k6 (x3.1,x3.2.2))
  (k10 (⟨x3.2.2.Psks,x3.2.2.J,x3.2.2.D,x3.2.2.T,r14.1⟩:G.Server)))
  (k10 x3.2.2))
  (k2 (x3.1,x3.2.2))) ([],0,a0)
def spec_ServerHear.raw (a0:G.Server) (a1:Int) (a2:G.Addr) (a3:List UInt8):Option (G.Server × (List G.Out) × (List G.Note)):=
  Option.bind (cpy a0) fun r1=>
  joinK (fun (y2:Bool)=>
  cond (y2)
  (some (r1,[],[]))
  (Option.bind (spec_Gain.raw a0.Cr a2 (a3.length:Int)) fun r5=>
  Option.bind (spec_GetFrame.raw a3) fun r6=>
  cond (!r6.2)
  (some ((⟨r1.Psks,r1.J,r1.D,r1.T,r5⟩:G.Server),[],[]))
  (joinK (fun (y7:(List G.Out) × (List G.Note) × G.Server × G.Server)=>
  Option.bind (spec_l22Out.raw y7.2.2.1 y7.1) fun r65=>
  some (r65.2,r65.1,y7.2.1)) fun k8=>
  cond (r6.1.Kind==1)
  (joinK (fun (y9:Bool)=>
  cond (y9)
  (some ((⟨r1.Psks,r1.J,r1.D,r1.T,r5⟩:G.Server),[],[]))
  (Option.bind (rollO a0.D) fun r12=>
  cond (decide (([]:List UInt8).length+r6.1.Cn.length≤LIM)) (Option.bind (spec_Mint.raw a0.J a2 r6.1.Id r6.1.Cn r12.2 a1) fun r13=>
  Option.bind (noteRolledO r12.2) fun r14=>
  Option.bind (spec_MintBody.raw a2 r6.1.Id r6.1.Cn r12.2 a1) fun r15=>
  Option.bind (spec_Made.raw a0.J.Secret r15) fun r16=>
  cond (decide (([]:List G.Note).length+[r14,r16].length≤LIM)) (let x17:List G.Out:=[(⟨a2,(⟨2,0,[]++r6.1.Cn,r12.2,a1,r13,[],0,0,[],[]⟩:G.Frame)⟩:G.Out)]
  cond (decide (([]:List G.Out).length+x17.length≤LIM)) (k8 (([]++x17),([]++[r14,r16]),(⟨r1.Psks,r1.J,r12.1,r1.T,r5⟩:G.Server),(⟨[],(⟨[]⟩:G.Jar),(⟨[],0⟩:G.Dice),(⟨0,[]⟩:G.Tab),[]⟩:G.Server))) none) none) none)) fun k10=>
  cond (decide (r6.1.Id>(a0.Psks.length:Int)))
  (k10 true)
  (Option.bind (spec_MayAsk.raw (⟨r1.Psks,r1.J,r1.D,r1.T,r5⟩:G.Server) a2 45) fun r11=>
  cond (!r11)
  (k10 true)
  (k10 (a0.D.N==10000))))
  (joinK (fun (y18:(List G.Out) × (List G.Note) × G.Server × G.Server)=>
  k8 (y18.1,y18.2.1,y18.2.2.2,y18.2.2.1)) fun k19=>
  cond (r6.1.Kind==3)
  (joinK (fun (y20:Bool)=>
  cond (y20)
  (some ((⟨r1.Psks,r1.J,r1.D,r1.T,r5⟩:G.Server),[],[]))
  (Option.bind (findSnO a0.T r6.1.Sn) fun r25=>
  joinK (fun (y26:(List G.Note) × Int × G.Server × G.Server)=>
  cond (decide (0≤y26.2.1)&&decide (y26.2.1<(y26.2.2.2.T.L.length:Int))) (Option.bind (y26.2.2.2.T.L[y26.2.1.toNat]?) fun e38=>
  joinK (fun (y39:Bool)=>
  joinK (fun (y42:(List G.Out) × (List G.Note) × G.Server)=>
  k19 (y42.1,y42.2.1,y26.2.2.1,y42.2.2)) fun k43=>
  cond (y39)
  (Option.bind (spec_SessAck.raw e38) fun r44=>
  cond (decide (0≤y26.2.1)&&decide (y26.2.1<(y26.2.2.2.T.L.length:Int))) (Option.bind (y26.2.2.2.T.L[y26.2.1.toNat]?) fun e45=>
  cond (decide (([]:List G.Out).length+r44.2.1.length≤LIM)) (cond (decide (y26.1.length+r44.2.2.length≤LIM)) (k43 (([]++r44.2.1),(y26.1++r44.2.2),(⟨y26.2.2.2.Psks,y26.2.2.2.J,y26.2.2.2.D,(⟨y26.2.2.2.T.Cap,List.set y26.2.2.2.T.L y26.2.1.toNat r44.1⟩:G.Tab),y26.2.2.2.Cr⟩:G.Server))) none) none) none)
  (k43 ([],y26.1,y26.2.2.2))) fun k40=>
  cond (!e38.Dead)
  (cond (e38.Id==r6.1.Id)
  (Option.bind (sameO e38.Cn r6.1.Cn) fun r41=>
  k40 r41)
  (k40 false))
  (k40 false)) none) fun k27=>
  cond (decide (r25<0))
  (Option.bind (idxI a0.Psks (isub .i64 r6.1.Id 1)) fun e28=>
  Option.bind (spec_SessNew.raw e28 a1 a2 r6.1) fun r29=>
  Option.bind (spec_AddSess.raw a0.T r29) fun r30=>
  cond (r30.2 !=0)
  (some ((⟨r1.Psks,r1.J,r1.D,r1.T,r5⟩:G.Server),[],[]))
  (Option.bind (spec_MintBody.raw a2 r6.1.Id r6.1.Cn r6.1.Sn r6.1.Tick) fun r31=>
  Option.bind (spec_Took.raw a0.J.Secret r6.1.Sn r31) fun r32=>
  cond (decide (([]:List G.Note).length+[r32].length≤LIM)) (Option.bind (idxI a0.Psks (isub .i64 r6.1.Id 1)) fun e33=>
  Option.bind (spec_FinishKey.raw e33) fun r34=>
  Option.bind (spec_ProofBody.raw r6.1.Id r6.1.Cn r6.1.Sn r6.1.Tick r6.1.Cookie) fun r35=>
  Option.bind (spec_Took.raw r34 r6.1.Sn r35) fun r36=>
  cond (decide (([]++[r32]).length+[r36].length≤LIM)) (cond (decide (([]:List UInt8).length+r6.1.Cn.length≤LIM)) (cond (decide (([]:List UInt8).length+r6.1.Sn.length≤LIM)) (cond (decide (([]:List UInt8).length+r29.C.Cur.Key.length≤LIM)) (let x37:List G.Note:=[(⟨4,r6.1.Id,0,[]++r6.1.Cn,[]++r6.1.Sn,0,0,[],[]++r29.C.Cur.Key,a2,a1⟩:G.Note)]
  cond (decide ((([]++[r32])++[r36]).length+x37.length≤LIM)) (k27 (((([]++[r32])++[r36])++x37),(isub .i64 (r30.1.L.length:Int) 1),(⟨[],(⟨[]⟩:G.Jar),(⟨[],0⟩:G.Dice),(⟨0,[]⟩:G.Tab),[]⟩:G.Server),(⟨r1.Psks,r1.J,r1.D,r30.1,r5⟩:G.Server))) none) none) none) none) none) none))
  (k27 ([],r25,(⟨[],(⟨[]⟩:G.Jar),(⟨[],0⟩:G.Dice),(⟨0,[]⟩:G.Tab),[]⟩:G.Server),(⟨r1.Psks,r1.J,r1.D,r1.T,r5⟩:G.Server))))) fun k21=>
  Option.bind (spec_Judge.raw a0.J a1 a2 r6.1) fun r22=>
  cond (r22 !=0)
  (k21 true)
  (cond (decide (r6.1.Id>(a0.Psks.length:Int)))
  (k21 true)
  (Option.bind (idxI a0.Psks (isub .i64 r6.1.Id 1)) fun e23=>
  Option.bind (spec_ProofOk.raw e23 r6.1) fun r24=>
  k21 (!r24))))
  (joinK (fun (y46:(List G.Out) × (List G.Note) × G.Server × G.Server)=>
  k19 (y46.1,y46.2.1,y46.2.2.1,y46.2.2.2)) fun k47=>
  cond ((isSealed r6.1.Kind))
  (Option.bind (findSnO a0.T r6.1.Sn) fun r48=>
  joinK (fun (y49:Bool)=>
  cond (y49)
  (some ((⟨r1.Psks,r1.J,r1.D,r1.T,r5⟩:G.Server),[],[]))
  (Option.bind (rollO a0.D) fun r52=>
  Option.bind (spec_MayAsk.raw (⟨r1.Psks,r1.J,r1.D,r1.T,r5⟩:G.Server) a2 51) fun r53=>
  joinK (fun (y54:(List UInt8))=>
  Option.bind (idxI a0.T.L r48) fun e56=>
  Option.bind (spec_SessHear.raw e56 a1 a2 r6.1 y54) fun r57=>
  cond (decide (0≤r48)&&decide (r48<(r1.T.L.length:Int))) (Option.bind (r1.T.L[r48.toNat]?) fun e58=>
  cond (decide (([]:List G.Out).length+r57.2.1.length≤LIM)) (joinK (fun (y59:(List G.Note) × G.Server)=>
  cond (decide (y59.1.length+r57.2.2.1.length≤LIM)) (joinK (fun (y62:(List G.Note))=>
  k47 (([]++r57.2.1),y62,(⟨[],(⟨[]⟩:G.Jar),(⟨[],0⟩:G.Dice),(⟨0,[]⟩:G.Tab),[]⟩:G.Server),y59.2)) fun k63=>
  cond (r57.2.2.2)
  (cond (decide (([]:List UInt8).length+r6.1.Sn.length≤LIM)) (cond (decide (([]:List UInt8).length+y54.length≤LIM)) (let x64:List G.Note:=[(⟨7,0,0,[],[]++r6.1.Sn,0,0,[]++y54,[],a2,a1⟩:G.Note)]
  cond (decide ((y59.1++r57.2.2.1).length+x64.length≤LIM)) (k63 ((y59.1++r57.2.2.1)++x64)) none) none) none)
  (k63 (y59.1++r57.2.2.1))) none) fun k60=>
  cond (r57.2.2.2)
  (Option.bind (noteRolledO y54) fun r61=>
  cond (decide (([]:List G.Note).length+[r61].length≤LIM)) (k60 (([]++[r61]),(⟨r1.Psks,r1.J,r52.1,(⟨r1.T.Cap,List.set r1.T.L r48.toNat r57.1⟩:G.Tab),r5⟩:G.Server))) none)
  (k60 ([],(⟨r1.Psks,r1.J,r1.D,(⟨r1.T.Cap,List.set r1.T.L r48.toNat r57.1⟩:G.Tab),r5⟩:G.Server)))) none) none) fun k55=>
  cond (!r53)
  (k55 [])
  (k55 r52.2))) fun k50=>
  cond (decide (r48<0))
  (k50 true)
  (Option.bind (idxI a0.T.L r48) fun e51=>
  k50 e51.Dead))
  (k47 ([],[],(⟨[],(⟨[]⟩:G.Jar),(⟨[],0⟩:G.Dice),(⟨0,[]⟩:G.Tab),[]⟩:G.Server),(⟨r1.Psks,r1.J,r1.D,r1.T,r5⟩:G.Server)))))))) fun k3=>
  Option.bind (serverOkO a0) fun r4=>
  cond (!r4)
  (k3 true)
  (cond (!(inR a1 0 1000000))
  (k3 true)
  (k3 (!(addrOk a2))))
def spec_FinishOf.raw (a0:List UInt8) (a1:Int) (a2:G.Frame):Option (G.Frame × Bool):=
  joinK (fun (y1:Bool)=>
  cond (y1)
  (some ((⟨0,0,[],[],0,[],[],0,0,[],[]⟩:G.Frame),false))
  (Option.bind (spec_Proof.raw a0 a1 a2.Cn a2.Sn a2.Tick a2.Cookie) fun r3=>
  cond ((r3.length:Int)==0)
  (some ((⟨0,0,[],[],0,[],[],0,0,[],[]⟩:G.Frame),false))
  (Option.bind (cpy a2) fun r4=>
  some ((⟨3,a1,r4.Cn,r4.Sn,r4.Tick,r4.Cookie,r3,r4.Epoch,r4.Seq,r4.Body,r4.Tag⟩:G.Frame),true)))) fun k2=>
  cond (!(frameOk a2))
  (k2 true)
  (k2 (a2.Kind !=2))
def spec_ClientHear.raw (a0:G.Client) (a1:Int) (a2:G.Frame):Option (G.Client × (List G.Frame) × (List G.Note)):=
  Option.bind (cpy a0) fun r1=>
  joinK (fun (y2:Bool)=>
  cond (y2)
  (some (r1,[],[]))
  (joinK (fun (y5:Bool)=>
  cond (y5)
  (Option.bind (spec_FinishOf.raw a0.Psk a0.Id a2) fun r8=>
  Option.bind (spec_EpochKey.raw a0.Psk a0.Cn a2.Sn 0) fun r9=>
  Option.bind (spec_ChanNew.raw 0 a2.Sn r9) fun r10=>
  Option.bind (spec_TimerSet.raw a1) fun r11=>
  cond (decide (([]:List UInt8).length+a0.Cn.length≤LIM)) (cond (decide (([]:List UInt8).length+a2.Sn.length≤LIM)) (let x12:List G.Note:=[(⟨2,a0.Id,0,[]++a0.Cn,[]++a2.Sn,0,0,[],[],(⟨0,0⟩:G.Addr),a1⟩:G.Note)]
  cond (decide (([]:List G.Note).length+x12.length≤LIM)) (Option.bind (spec_FinishKey.raw a0.Psk) fun r13=>
  Option.bind (spec_ProofBody.raw r8.1.Id r8.1.Cn r8.1.Sn r8.1.Tick r8.1.Cookie) fun r14=>
  Option.bind (spec_Made.raw r13 r14) fun r15=>
  cond (decide (([]++x12).length+[r15].length≤LIM)) (Option.bind (cpy r8.1) fun r16=>
  cond (decide (([]:List G.Frame).length+[r16].length≤LIM)) (some ((⟨r1.Id,r1.Psk,r1.At,2,r1.Cn,r8.1,r10,r11,r1.R,r1.Last⟩:G.Client),[]++[r16],([]++x12)++[r15])) none) none) none) none) none)
  (joinK (fun (y17:Bool)=>
  cond (y17)
  (some (r1,[],[]))
  (Option.bind (spec_ChanOpen.raw a0.C a1 a2) fun r19=>
  cond (r19.2.2 !=0)
  (some (r1,[],[]))
  (Option.bind (spec_KeyFor.raw a0.C a2.Epoch) fun r20=>
  Option.bind (spec_TagInput.raw 1 a2) fun r21=>
  Option.bind (spec_Took.raw r20.1 a2.Sn r21) fun r22=>
  cond (decide (([]:List G.Note).length+[r22].length≤LIM)) (joinK (fun (y23:(List G.Note) × G.Client)=>
  joinK (fun (y26:(List G.Note) × G.Client)=>
  joinK (fun (y29:(List G.Note))=>
  joinK (fun (y32:(List G.Frame) × (List G.Note) × G.Client)=>
  some (y32.2.2,y32.1,y32.2.1)) fun k33=>
  cond (a2.Kind==5)
  (Option.bind (spec_ChanSeal.raw r19.1 6 r19.2.1) fun r34=>
  joinK (fun (y35:(List G.Frame) × (List G.Note) × G.Client)=>
  k33 (y35.1,y35.2.1,y35.2.2)) fun k36=>
  cond (r34.2.2==0)
  (cond (decide (([]:List G.Frame).length+[r34.2.1].length≤LIM)) (Option.bind (spec_l19Made.raw r34.1 r34.2.1) fun r37=>
  cond (decide (y29.length+[r37].length≤LIM)) (cond (decide (([]:List UInt8).length+a2.Sn.length≤LIM)) (cond (decide (([]:List UInt8).length+r19.2.1.length≤LIM)) (let x38:List G.Note:=[(⟨8,0,0,[],[]++a2.Sn,r34.2.1.Epoch,0,[]++r19.2.1,[],(⟨0,0⟩:G.Addr),0⟩:G.Note)]
  cond (decide ((y29++[r37]).length+x38.length≤LIM)) (k36 (([]++[r34.2.1]),((y29++[r37])++x38),(⟨y26.2.Id,y26.2.Psk,y26.2.At,y26.2.St,y26.2.Cn,y26.2.Fin,r34.1,y26.2.T,y26.2.R,y26.2.Last⟩:G.Client))) none) none) none) none) none)
  (k36 ([],y29,y26.2)))
  (k33 ([],y29,y26.2))) fun k30=>
  cond (a2.Kind==4)
  (cond (decide (([]:List UInt8).length+a2.Sn.length≤LIM)) (cond (decide (([]:List UInt8).length+r19.2.1.length≤LIM)) (let x31:List G.Note:=[(⟨6,0,1,[],[]++a2.Sn,a2.Epoch,a2.Seq,[]++r19.2.1,[],(⟨0,0⟩:G.Addr),a1⟩:G.Note)]
  cond (decide (y26.1.length+x31.length≤LIM)) (k30 (y26.1++x31)) none) none) none)
  (k30 y26.1)) fun k27=>
  cond (r19.1.Cur.N !=a0.C.Cur.N)
  (cond (decide (([]:List UInt8).length+a2.Sn.length≤LIM)) (cond (decide (([]:List UInt8).length+r19.1.Cur.Key.length≤LIM)) (let x28:List G.Note:=[(⟨10,0,0,[],[]++a2.Sn,r19.1.Cur.N,0,[],[]++r19.1.Cur.Key,(⟨0,0⟩:G.Addr),0⟩:G.Note)]
  cond (decide (y23.1.length+x28.length≤LIM)) (k27 ((y23.1++x28),(⟨y23.2.Id,y23.2.Psk,y23.2.At,y23.2.St,y23.2.Cn,y23.2.Fin,y23.2.C,y23.2.T,(⟨false,0,0,0⟩:G.Timer),y23.2.Last⟩:G.Client))) none) none) none)
  (k27 (y23.1,y23.2))) fun k24=>
  cond (a0.St==2)
  (cond (decide (([]:List UInt8).length+a0.Cn.length≤LIM)) (cond (decide (([]:List UInt8).length+a2.Sn.length≤LIM)) (cond (decide (([]:List UInt8).length+a0.C.Cur.Key.length≤LIM)) (let x25:List G.Note:=[(⟨3,a0.Id,0,[]++a0.Cn,[]++a2.Sn,0,0,[],[]++a0.C.Cur.Key,(⟨0,0⟩:G.Addr),0⟩:G.Note)]
  cond (decide (([]++[r22]).length+x25.length≤LIM)) (k24 ((([]++[r22])++x25),(⟨r1.Id,r1.Psk,r1.At,3,r1.Cn,(⟨0,0,[],[],0,[],[],0,0,[],[]⟩:G.Frame),r19.1,(⟨false,0,0,0⟩:G.Timer),r1.R,a1⟩:G.Client))) none) none) none) none)
  (k24 (([]++[r22]),(⟨r1.Id,r1.Psk,r1.At,r1.St,r1.Cn,r1.Fin,r19.1,r1.T,r1.R,a1⟩:G.Client)))) none))) fun k18=>
  cond (!(isSealed a2.Kind))
  (k18 true)
  (k18 (decide (a0.St<2))))) fun k6=>
  cond (a2.Kind==2)
  (cond (a0.St==1)
  (Option.bind (sameO a2.Cn a0.Cn) fun r7=>
  k6 r7)
  (k6 false))
  (k6 false))) fun k3=>
  Option.bind (clientOkO a0) fun r4=>
  cond (!r4)
  (k3 true)
  (cond (!(inR a1 0 1000000))
  (k3 true)
  (k3 (!(frameOk a2))))
def spec_l25Post.raw (a0:G.World) (a1:Int) (a2:G.Addr) (a3:List UInt8):Option ((List G.Wire) × G.World):=
  cond (a1==0)
  (Option.bind (spec_ServerHear.raw a0.S a0.Now a2 a3) fun r1=>
  cond (decide (a0.Notes.length+r1.2.2.length≤LIM)) (Option.bind (spec_l25Outs.raw r1.2.1) fun r2=>
  some (r2,(⟨a0.Now,a0.Clients,r1.1,a0.D,a0.Seen,a0.Known,a0.Notes++r1.2.2⟩:G.World))) none)
  (Option.bind (spec_GetFrame.raw a3) fun r3=>
  cond (!r3.2)
  (some ([],a0))
  (cond (decide (0≤isub .i64 a1 1)&&decide (isub .i64 a1 1<(a0.Clients.length:Int))) (Option.bind (a0.Clients[(isub .i64 a1 1).toNat]?) fun e4=>
  Option.bind (spec_ClientHear.raw e4 a0.Now r3.1) fun r5=>
  cond (decide (0≤isub .i64 a1 1)&&decide (isub .i64 a1 1<(a0.Clients.length:Int))) (Option.bind (a0.Clients[(isub .i64 a1 1).toNat]?) fun e6=>
  cond (decide (a0.Notes.length+r5.2.2.length≤LIM)) (Option.bind (spec_l25Sent.raw r5.1 r5.2.1) fun r7=>
  some (r7,(⟨a0.Now,List.set a0.Clients ((isub .i64 a1 1).toNat) r5.1,a0.S,a0.D,a0.Seen,a0.Known,a0.Notes++r5.2.2⟩:G.World))) none) none) none))
def spec_l26Post.raw (a0:G.World) (a1:Int) (a2:G.Addr) (a3:List UInt8):Option G.World:=
  Option.bind (spec_l25Post.raw a0 a1 a2 a3) fun r1=>
  Option.bind (spec_l26See.raw r1.2 r1.1 []) fun r2=>
  some r2
def spec_StepOk.raw (a0:G.Op):Option Bool:=
  joinK (fun (y1:Bool)=>
  some y1) fun k2=>
  cond ((inR a0.Kind 1 10))
  (cond (decide ((a0.B.length:Int)≤200))
  (cond ((inR a0.I 0 200))
  (k2 (inR a0.J 0 200))
  (k2 false))
  (k2 false))
  (k2 false)
def spec_Cut.raw (a0:List UInt8) (a1:Int) (a2:Int):Option ((List UInt8) × Bool):=
  joinK (fun (y1:Bool)=>
  cond (y1)
  (some ([],false))
  (cond (decide (0≤a1)&&decide (a1≤(iadd .i64 a1 a2))&&decide ((iadd .i64 a1 a2)≤(a0.length:Int))) (let l3:List UInt8:=List.take ((iadd .i64 a1 a2 - a1).toNat) (List.drop a1.toNat a0)
  cond (decide (([]:List UInt8).length+l3.length≤LIM)) (some ([]++l3,true)) none) none)) fun k2=>
  cond (decide (a2<0))
  (k2 true)
  (cond (decide (a1<0))
  (k2 true)
  (cond (decide (a2>(a0.length:Int)))
  (k2 true)
  (k2 (decide (a1>(isub .i64 (a0.length:Int) a2))))))
def spec_Cook.raw (a0:List G.Op) (a1:List G.Wire) (a2:List (List UInt8)):Option ((List UInt8) × Bool):=
  cond (decide ((a0.length:Int)>16))
  (some ([],false))
  (joinK (fun (y1:(List (List UInt8)))=>
  cond ((y1.length:Int) !=1)
  (some ([],false))
  (cond (decide (0≤(0:Int))&&decide ((0:Int)<(y1.length:Int))) (Option.bind (y1[0]?) fun e71=>
  cond (decide (([]:List UInt8).length+e71.length≤LIM)) (some ([]++e71,true)) none) none)) fun k2=>
  loopK FU (fun (x3:(List (List UInt8)) × Int) k4=>
  cond (decide (x3.2<(a0.length:Int)))
  (Option.bind (idxI a0 x3.2) fun e5=>
  joinK (fun (y6:Bool)=>
  cond (y6)
  (some ([],false))
  (Option.bind (spec_l24Need.raw e5.Kind) fun r10=>
  joinK (fun (y11:(List UInt8))=>
  joinK (fun (y68:Bool)=>
  cond (y68)
  (some ([],false))
  (cond (decide (0≤(0:Int))&&decide ((0:Int)≤(isub .i64 (x3.1.length:Int) r10))&&decide ((isub .i64 (x3.1.length:Int) r10)≤(x3.1.length:Int))) (cond (decide ((List.take ((isub .i64 (x3.1.length:Int) r10 - 0).toNat) x3.1).length+[y11].length≤LIM)) (let x70:List (List UInt8):=(List.take ((isub .i64 (x3.1.length:Int) r10 - 0).toNat) x3.1)++[y11]
  k4 (x70,(iadd .i64 x3.2 1))) none) none)) fun k69=>
  cond (decide ((y11.length:Int)>200))
  (k69 true)
  (k69 ((isub .i64 (x3.1.length:Int) r10)==8))) fun k12=>
  cond (e5.Kind==1)
  (cond (decide (([]:List UInt8).length+e5.B.length≤LIM)) (k12 ([]++e5.B)) none)
  (joinK (fun (y13:(List UInt8))=>
  k12 y13) fun k14=>
  cond (e5.Kind==2)
  (cond (decide (e5.I≥(a1.length:Int)))
  (some ([],false))
  (Option.bind (idxI a1 e5.I) fun e15=>
  cond (decide (([]:List UInt8).length+e15.B.length≤LIM)) (k14 ([]++e15.B)) none))
  (joinK (fun (y16:(List UInt8))=>
  k14 y16) fun k17=>
  cond (e5.Kind==3)
  (cond (decide (e5.I≥(a2.length:Int)))
  (some ([],false))
  (Option.bind (idxI a2 e5.I) fun e18=>
  cond (decide (([]:List UInt8).length+e18.length≤LIM)) (k17 ([]++e18)) none))
  (joinK (fun (y19:(List UInt8))=>
  k17 y19) fun k20=>
  cond (e5.Kind==4)
  (cond (decide (0≤isub .i64 (x3.1.length:Int) r10)&&decide (isub .i64 (x3.1.length:Int) r10<(x3.1.length:Int))) (Option.bind (x3.1[(isub .i64 (x3.1.length:Int) r10).toNat]?) fun e21=>
  Option.bind (cutO e21 e5.I e5.J) fun r22=>
  cond (!r22.2)
  (some ([],false))
  (k20 r22.1)) none)
  (joinK (fun (y23:(List UInt8))=>
  k20 y23) fun k24=>
  cond (e5.Kind==5)
  (cond (decide (0≤isub .i64 (x3.1.length:Int) r10)&&decide (isub .i64 (x3.1.length:Int) r10<(x3.1.length:Int))) (Option.bind (x3.1[(isub .i64 (x3.1.length:Int) r10).toNat]?) fun e25=>
  cond (decide (([]:List UInt8).length+e25.length≤LIM)) (let x26:Int:=iadd .i64 (isub .i64 (x3.1.length:Int) r10) 1
  cond (decide (0≤x26)&&decide (x26<(x3.1.length:Int))) (Option.bind (x3.1[x26.toNat]?) fun e27=>
  cond (decide (([]++e25).length+e27.length≤LIM)) (k24 (([]++e25)++e27)) none) none) none) none)
  (joinK (fun (y28:(List UInt8))=>
  k24 y28) fun k29=>
  cond (e5.Kind==6)
  (cond (decide (0≤isub .i64 (x3.1.length:Int) r10)&&decide (isub .i64 (x3.1.length:Int) r10<(x3.1.length:Int))) (Option.bind (x3.1[(isub .i64 (x3.1.length:Int) r10).toNat]?) fun e30=>
  let x31:Int:=iadd .i64 (isub .i64 (x3.1.length:Int) r10) 1
  cond (decide (0≤x31)&&decide (x31<(x3.1.length:Int))) (Option.bind (x3.1[x31.toNat]?) fun e32=>
  cond ((e30.length:Int) !=(e32.length:Int))
  (some ([],false))
  (joinK (fun (y33:(List UInt8))=>
  k29 y33) fun k34=>
  loopK FU (fun (x35:(List UInt8) × Int) k36=>
  cond (decide (0≤isub .i64 (x3.1.length:Int) r10)&&decide (isub .i64 (x3.1.length:Int) r10<(x3.1.length:Int))) (Option.bind (x3.1[(isub .i64 (x3.1.length:Int) r10).toNat]?) fun e37=>
  cond (decide (x35.2<(e37.length:Int)))
  (cond (decide (0≤isub .i64 (x3.1.length:Int) r10)&&decide (isub .i64 (x3.1.length:Int) r10<(x3.1.length:Int))) (Option.bind (x3.1[(isub .i64 (x3.1.length:Int) r10).toNat]?) fun e38=>
  Option.bind (idxI e38 x35.2) fun e39=>
  let x40:Int:=iadd .i64 (isub .i64 (x3.1.length:Int) r10) 1
  cond (decide (0≤x40)&&decide (x40<(x3.1.length:Int))) (Option.bind (x3.1[x40.toNat]?) fun e41=>
  Option.bind (idxI e41 x35.2) fun e42=>
  let x43:Int:=ixor .u8 ((e39.toNat:Nat):Int) ((e42.toNat:Nat):Int)
  cond (decide (x35.1.length+[UInt8.ofNat (x43:Int).toNat].length≤LIM)) (k36 ((x35.1++[UInt8.ofNat (x43:Int).toNat]),(iadd .i64 x35.2 1))) none) none) none)
  (k34 x35.1)) none) ([],0))) none) none)
  (joinK (fun (y44:(List UInt8))=>
  k29 y44) fun k45=>
  cond (e5.Kind==7)
  (cond (decide (0≤isub .i64 (x3.1.length:Int) r10)&&decide (isub .i64 (x3.1.length:Int) r10<(x3.1.length:Int))) (Option.bind (x3.1[(isub .i64 (x3.1.length:Int) r10).toNat]?) fun e46=>
  let x47:Int:=iadd .i64 (isub .i64 (x3.1.length:Int) r10) 1
  cond (decide (0≤x47)&&decide (x47<(x3.1.length:Int))) (Option.bind (x3.1[x47.toNat]?) fun e48=>
  let r49:(List UInt8):=hmac e46 e48
  k45 r49) none) none)
  (joinK (fun (y50:(List UInt8))=>
  k45 y50) fun k51=>
  cond (e5.Kind==8)
  (cond (decide (0≤isub .i64 (x3.1.length:Int) r10)&&decide (isub .i64 (x3.1.length:Int) r10<(x3.1.length:Int))) (Option.bind (x3.1[(isub .i64 (x3.1.length:Int) r10).toNat]?) fun e52=>
  let x53:Int:=iadd .i64 (isub .i64 (x3.1.length:Int) r10) 1
  cond (decide (0≤x53)&&decide (x53<(x3.1.length:Int))) (Option.bind (x3.1[x53.toNat]?) fun e54=>
  Option.bind (spec_Tag.raw e52 e54) fun r55=>
  k51 r55) none) none)
  (joinK (fun (y56:(List UInt8))=>
  k51 y56) fun k57=>
  cond (e5.Kind==9)
  (cond (decide (0≤isub .i64 (x3.1.length:Int) r10)&&decide (isub .i64 (x3.1.length:Int) r10<(x3.1.length:Int))) (Option.bind (x3.1[(isub .i64 (x3.1.length:Int) r10).toNat]?) fun e58=>
  Option.bind (deriveO e58 [114,101,107,101,121]) fun r59=>
  k57 r59) none)
  (joinK (fun (y60:(List UInt8))=>
  k57 y60) fun k61=>
  cond (e5.Kind==10)
  (cond (decide (0≤isub .i64 (x3.1.length:Int) r10)&&decide (isub .i64 (x3.1.length:Int) r10<(x3.1.length:Int))) (Option.bind (x3.1[(isub .i64 (x3.1.length:Int) r10).toNat]?) fun e62=>
  let x63:Int:=iadd .i64 (isub .i64 (x3.1.length:Int) r10) 1
  cond (decide (0≤x63)&&decide (x63<(x3.1.length:Int))) (Option.bind (x3.1[x63.toNat]?) fun e64=>
  let x65:Int:=iadd .i64 (isub .i64 (x3.1.length:Int) r10) 2
  cond (decide (0≤x65)&&decide (x65<(x3.1.length:Int))) (Option.bind (x3.1[x65.toNat]?) fun e66=>
  Option.bind (spec_Mix.raw e62 e64 e66) fun r67=>
  k61 r67) none) none) none)
  (k61 [])))))))))))) fun k7=>
  Option.bind (spec_StepOk.raw e5) fun r8=>
  cond (!r8)
  (k7 true)
  (Option.bind (spec_l24Need.raw e5.Kind) fun r9=>
  k7 (decide ((x3.1.length:Int)<r9))))
  (k2 x3.1)) ([],0))
def spec_Boot.raw (a0:G.Server):Option (G.Server × (List G.Note)):=
  Option.bind (cpy a0) fun r1=>
  joinK (fun (y2:Bool)=>
  cond (y2)
  (some (r1,[]))
  (Option.bind (rollO a0.D) fun r5=>
  let r6:G.Jar:=jarNew r5.2
  let r7:G.Tab:=tabNew a0.T.Cap
  Option.bind (noteRolledO r5.2) fun r8=>
  cond (decide (([]:List UInt8).length+r6.Secret.length≤LIM)) (let x9:List G.Note:=[r8,(⟨12,0,0,[],[],0,0,[],[]++r6.Secret,(⟨0,0⟩:G.Addr),0⟩:G.Note)]
  some ((⟨r1.Psks,r6,r5.1,r7,[]⟩:G.Server),x9)) none)) fun k3=>
  Option.bind (serverOkO a0) fun r4=>
  cond (!r4)
  (k3 true)
  (k3 (a0.D.N==10000))
def spec_Hang.raw (a0:G.Client):Option (G.Client × (List G.Note)):=
  Option.bind (clientOkO a0) fun r1=>
  cond (!r1)
  (Option.bind (cpy a0) fun r2=>
  some (r2,[]))
  (cond (a0.St==3)
  (Option.bind (spec_l19Idle.raw a0) fun r3=>
  cond (decide (([]:List UInt8).length+a0.C.Sn.length≤LIM)) (let x4:List G.Note:=[(⟨11,a0.Id,0,[],[]++a0.C.Sn,0,0,[],[],(⟨0,0⟩:G.Addr),0⟩:G.Note)]
  some (r3,x4)) none)
  (Option.bind (spec_l19Idle.raw a0) fun r5=>
  some (r5,[])))
def spec_ServerClose.raw (a0:G.Server) (a1:Int):Option (G.Server × (List G.Note) × Int):=
  Option.bind (cpy a0) fun r1=>
  Option.bind (serverOkO a0) fun r2=>
  cond (!r2)
  (some (r1,[],1))
  (joinK (fun (y3:Bool)=>
  cond (y3)
  (some (r1,[],8))
  (Option.bind (idxI a0.T.L a1) fun e7=>
  Option.bind (spec_Bury.raw e7) fun r8=>
  cond (decide (0≤a1)&&decide (a1<(r1.T.L.length:Int))) (Option.bind (r1.T.L[a1.toNat]?) fun e9=>
  Option.bind (idxI a0.T.L a1) fun e10=>
  Option.bind (spec_l22End.raw e10) fun r11=>
  some ((⟨r1.Psks,r1.J,r1.D,(⟨r1.T.Cap,List.set r1.T.L a1.toNat r8⟩:G.Tab),r1.Cr⟩:G.Server),[r11],0)) none)) fun k4=>
  let r5:Bool:=inR a1 0 (isub .i64 (a0.T.L.length:Int) 1)
  cond (!r5)
  (k4 true)
  (Option.bind (idxI a0.T.L a1) fun e6=>
  k4 e6.Dead))
def spec_KeysOf.raw (a0:G.Chan):Option (List (List UInt8)):=
  Option.bind (chanOkO a0) fun r1=>
  cond (!r1)
  (some [])
  (joinK (fun (y2:(List (List UInt8)))=>
  cond (decide (([]:List UInt8).length+a0.Cur.Key.length≤LIM)) (cond (decide (y2.length+[[]++a0.Cur.Key].length≤LIM)) (joinK (fun (y4:(List (List UInt8)))=>
  some y4) fun k5=>
  cond (decide ((a0.Next.length:Int)>0))
  (cond (decide (([]:List UInt8).length+a0.Next.length≤LIM)) (cond (decide ((y2++[[]++a0.Cur.Key]).length+[[]++a0.Next].length≤LIM)) (k5 ((y2++[[]++a0.Cur.Key])++[[]++a0.Next])) none) none)
  (k5 (y2++[[]++a0.Cur.Key]))) none) none) fun k3=>
  cond (a0.HasOld)
  (cond (decide (([]:List UInt8).length+a0.Old.Key.length≤LIM)) (cond (decide (([]:List (List UInt8)).length+[[]++a0.Old.Key].length≤LIM)) (k3 ([]++[[]++a0.Old.Key])) none) none)
  (k3 []))
def spec_l26Show.raw (a0:G.World) (a1:G.Chan):Option (Bool × G.World):=
  Option.bind (spec_KeysOf.raw a1) fun r1=>
  let x2:Int:=iadd .i64 (a0.Known.length:Int) (r1.length:Int)
  cond (decide (x2>12))
  (some (false,a0))
  (cond (decide (a0.Known.length+r1.length≤LIM)) (cond (decide (([]:List UInt8).length+a1.Sn.length≤LIM)) (let x3:List G.Note:=[(⟨13,0,0,[],[]++a1.Sn,0,0,[],[],(⟨0,0⟩:G.Addr),0⟩:G.Note)]
  cond (decide (a0.Notes.length+x3.length≤LIM)) (some (true,(⟨a0.Now,a0.Clients,a0.S,a0.D,a0.Seen,a0.Known++r1,a0.Notes++x3⟩:G.World))) none) none) none)
def spec_Wind.raw (a0:G.Dice) (a1:Int):Option G.Dice:=
  Option.bind (diceCopyO a0) fun r1=>
  joinK (fun (y2:Bool)=>
  joinK (fun (y4:G.Dice)=>
  some y4) fun k5=>
  cond (y2)
  (k5 (⟨r1.Seed,a1⟩:G.Dice))
  (k5 r1)) fun k3=>
  cond ((diceOk a0))
  (k3 (inR a1 0 10000))
  (k3 false)
def spec_l26Do.raw (a0:G.World) (a1:G.Event):Option (Bool × G.World):=
  joinK (fun (y1:Bool)=>
  joinK (fun (y3:G.Wire)=>
  joinK (fun (y6:G.World)=>
  some (true,y6)) fun k7=>
  cond (a1.Kind==1)
  (Option.bind (rollO a0.D) fun r8=>
  cond (decide (0≤irem .i64 a1.I 2)&&decide (irem .i64 a1.I 2<(a0.Clients.length:Int))) (Option.bind (a0.Clients[(irem .i64 a1.I 2).toNat]?) fun e9=>
  Option.bind (spec_Dial.raw e9 a0.Now r8.2) fun r10=>
  cond (r10.2.2.2 !=0)
  (some (false,a0))
  (Option.bind (noteRolledO r8.2) fun r11=>
  cond (decide (a0.Notes.length+[r11].length≤LIM)) (Option.bind (spec_l26Client.raw (⟨a0.Now,a0.Clients,a0.S,r8.1,a0.Seen,a0.Known,a0.Notes++[r11]⟩:G.World) (irem .i64 a1.I 2) r10.1 r10.2.1 r10.2.2.1) fun r12=>
  k7 r12) none)) none)
  (joinK (fun (y13:G.World)=>
  k7 y13) fun k14=>
  cond (a1.Kind==2)
  (cond (decide (0≤irem .i64 a1.I 2)&&decide (irem .i64 a1.I 2<(a0.Clients.length:Int))) (Option.bind (a0.Clients[(irem .i64 a1.I 2).toNat]?) fun e15=>
  Option.bind (spec_ClientSend.raw e15 a0.Now a1.B) fun r16=>
  cond (r16.2.2.2 !=0)
  (some (false,a0))
  (Option.bind (spec_l26Client.raw a0 (irem .i64 a1.I 2) r16.1 r16.2.1 r16.2.2.1) fun r17=>
  k14 r17)) none)
  (joinK (fun (y18:G.World)=>
  k14 y18) fun k19=>
  cond (a1.Kind==3)
  (Option.bind (spec_ServerSend.raw a0.S a0.Now a1.I a1.B) fun r20=>
  cond (r20.2.2.2 !=0)
  (some (false,a0))
  (Option.bind (spec_l25Outs.raw r20.2.1) fun r21=>
  Option.bind (spec_l26See.raw (⟨a0.Now,a0.Clients,r20.1,a0.D,a0.Seen,a0.Known,a0.Notes⟩:G.World) r21 r20.2.2.1) fun r22=>
  k19 r22))
  (joinK (fun (y23:G.World)=>
  k19 y23) fun k24=>
  cond (a1.Kind==4)
  (cond (a0.Now==1000000)
  (some (false,a0))
  (Option.bind (spec_l25Tick.raw a0) fun r25=>
  Option.bind (spec_l26See.raw r25.2 r25.1 []) fun r26=>
  k24 r26))
  (joinK (fun (y27:G.World)=>
  k24 y27) fun k28=>
  cond (a1.Kind==5)
  (cond (decide (0≤irem .i64 a1.I 2)&&decide (irem .i64 a1.I 2<(a0.Clients.length:Int))) (Option.bind (a0.Clients[(irem .i64 a1.I 2).toNat]?) fun e29=>
  let r30:G.Addr:=near (iadd .i64 1 (irem .i64 a1.N 30))
  Option.bind (spec_Roam.raw e29 r30) fun r31=>
  cond (decide (0≤irem .i64 a1.I 2)&&decide (irem .i64 a1.I 2<(a0.Clients.length:Int))) (Option.bind (a0.Clients[(irem .i64 a1.I 2).toNat]?) fun e32=>
  k28 (⟨a0.Now,List.set a0.Clients ((irem .i64 a1.I 2).toNat) r31,a0.S,a0.D,a0.Seen,a0.Known,a0.Notes⟩:G.World)) none) none)
  (joinK (fun (y33:G.World)=>
  k28 y33) fun k34=>
  cond (a1.Kind==6)
  (cond (decide (0≤irem .i64 a1.I 2)&&decide (irem .i64 a1.I 2<(a0.Clients.length:Int))) (Option.bind (a0.Clients[(irem .i64 a1.I 2).toNat]?) fun e35=>
  Option.bind (spec_ClientRekey.raw e35 a0.Now) fun r36=>
  cond (r36.2.2.2 !=0)
  (some (false,a0))
  (Option.bind (spec_l26Client.raw a0 (irem .i64 a1.I 2) r36.1 r36.2.1 r36.2.2.1) fun r37=>
  k34 r37)) none)
  (joinK (fun (y38:G.World)=>
  k34 y38) fun k39=>
  cond (a1.Kind==7)
  (Option.bind (partyAtO a0 y3.To) fun r40=>
  cond (decide (r40<0))
  (some (false,a0))
  (Option.bind (spec_l26Post.raw a0 r40 y3.From y3.B) fun r41=>
  k39 r41))
  (joinK (fun (y42:G.World)=>
  k39 y42) fun k43=>
  cond (a1.Kind==8)
  (let r44:G.Addr:=near (irem .i64 a1.N 256)
  Option.bind (spec_l26Post.raw a0 0 r44 y3.B) fun r45=>
  k43 r45)
  (joinK (fun (y46:G.World)=>
  k43 y46) fun k47=>
  cond (a1.Kind==9)
  (Option.bind (spec_l26Post.raw a0 (irem .i64 a1.J 3) y3.From y3.B) fun r48=>
  k47 r48)
  (joinK (fun (y49:G.World)=>
  k47 y49) fun k50=>
  cond (a1.Kind==10)
  (Option.bind (partyAtO a0 y3.To) fun r51=>
  joinK (fun (y52:Bool)=>
  cond (y52)
  (some (false,a0))
  (cond (decide (([]:List UInt8).length+y3.B.length≤LIM)) (cond ((([]++y3.B).length:Int)==0) none (let x54:Int:=irem .i64 a1.N (([]++y3.B).length:Int)
  cond (decide (0≤x54)&&decide (x54<(([]++y3.B).length:Int))) (Option.bind (([]++y3.B)[x54.toNat]?) fun e55=>
  let x56:Int:=IntKind.wrap .u8 (iadd .i64 1 (irem .i64 a1.J 255))
  cond (decide (0≤x54)&&decide (x54<(([]++y3.B).length:Int))) (Option.bind (([]++y3.B)[x54.toNat]?) fun e57=>
  let l58:List UInt8:=List.set ([]++y3.B) x54.toNat (UInt8.ofNat (ixor .u8 ((e55.toNat:Nat):Int) x56:Int).toNat)
  Option.bind (spec_l26Post.raw a0 r51 y3.From l58) fun r59=>
  k50 r59) none) none)) none)) fun k53=>
  cond (decide (r51<0))
  (k53 true)
  (k53 ((y3.B.length:Int)==0)))
  (joinK (fun (y60:G.World)=>
  k50 y60) fun k61=>
  cond (a1.Kind==11)
  (Option.bind (spec_Cook.raw a1.Ops a0.Seen a0.Known) fun r62=>
  cond (!r62.2)
  (some (false,a0))
  (let r63:G.Addr:=near (irem .i64 a1.N 256)
  Option.bind (spec_l26Post.raw a0 (irem .i64 a1.J 3) r63 r62.1) fun r64=>
  k61 r64))
  (joinK (fun (y65:G.World)=>
  k61 y65) fun k66=>
  cond (a1.Kind==12)
  (Option.bind (spec_Boot.raw a0.S) fun r67=>
  cond ((r67.2.length:Int)==0)
  (some (false,a0))
  (Option.bind (spec_l26See.raw (⟨a0.Now,a0.Clients,r67.1,a0.D,a0.Seen,a0.Known,a0.Notes⟩:G.World) [] r67.2) fun r68=>
  k66 r68))
  (joinK (fun (y69:G.World)=>
  k66 y69) fun k70=>
  cond (a1.Kind==13)
  (cond (decide (0≤irem .i64 a1.I 2)&&decide (irem .i64 a1.I 2<(a0.Clients.length:Int))) (Option.bind (a0.Clients[(irem .i64 a1.I 2).toNat]?) fun e71=>
  cond (e71.St==0)
  (some (false,a0))
  (cond (decide (0≤irem .i64 a1.I 2)&&decide (irem .i64 a1.I 2<(a0.Clients.length:Int))) (Option.bind (a0.Clients[(irem .i64 a1.I 2).toNat]?) fun e72=>
  Option.bind (spec_Hang.raw e72) fun r73=>
  Option.bind (spec_l26Client.raw a0 (irem .i64 a1.I 2) r73.1 [] r73.2) fun r74=>
  k70 r74) none)) none)
  (joinK (fun (y75:G.World)=>
  k70 y75) fun k76=>
  cond (a1.Kind==14)
  (Option.bind (spec_ServerClose.raw a0.S a1.I) fun r77=>
  cond (r77.2.2 !=0)
  (some (false,a0))
  (Option.bind (spec_l26See.raw (⟨a0.Now,a0.Clients,r77.1,a0.D,a0.Seen,a0.Known,a0.Notes⟩:G.World) [] r77.2.1) fun r78=>
  k76 r78))
  (cond (a1.Kind==15)
  (joinK (fun (y79:Bool × G.World)=>
  some (y79.1,y79.2)) fun k80=>
  cond (decide (0≤irem .i64 a1.I 2)&&decide (irem .i64 a1.I 2<(a0.Clients.length:Int))) (Option.bind (a0.Clients[(irem .i64 a1.I 2).toNat]?) fun e81=>
  cond (e81.St==3)
  (cond (decide (0≤irem .i64 a1.I 2)&&decide (irem .i64 a1.I 2<(a0.Clients.length:Int))) (Option.bind (a0.Clients[(irem .i64 a1.I 2).toNat]?) fun e82=>
  Option.bind (spec_l26Show.raw a0 e82.C) fun r83=>
  k80 (r83.1,r83.2)) none)
  (k80 (false,a0))) none)
  (cond (a1.Kind==16)
  (joinK (fun (y84:Bool × G.World)=>
  some (y84.1,y84.2)) fun k85=>
  cond (decide (a1.I<(a0.S.T.L.length:Int)))
  (Option.bind (idxI a0.S.T.L a1.I) fun e86=>
  cond (!e86.Dead)
  (Option.bind (idxI a0.S.T.L a1.I) fun e87=>
  Option.bind (spec_l26Show.raw a0 e87.C) fun r88=>
  k85 (r88.1,r88.2))
  (k85 (false,a0)))
  (k85 (false,a0)))
  (joinK (fun (y89:G.World)=>
  k76 y89) fun k90=>
  cond (a1.Kind==17)
  (joinK (fun (y91:G.World)=>
  k90 y91) fun k92=>
  cond ((irem .i64 a1.J 2)==0)
  (Option.bind (spec_Wind.raw a0.D a1.N) fun r93=>
  k92 (⟨a0.Now,a0.Clients,a0.S,r93,a0.Seen,a0.Known,a0.Notes⟩:G.World))
  (Option.bind (spec_Wind.raw a0.S.D a1.N) fun r94=>
  k92 (⟨a0.Now,a0.Clients,(⟨a0.S.Psks,a0.S.J,r94,a0.S.T,a0.S.Cr⟩:G.Server),a0.D,a0.Seen,a0.Known,a0.Notes⟩:G.World)))
  (k90 a0)))))))))))))))))) fun k4=>
  cond (y1)
  (cond ((a0.Seen.length:Int)==0)
  (some (false,a0))
  (cond ((a0.Seen.length:Int)==0) none (cond (decide (0≤irem .i64 a1.I (a0.Seen.length:Int))&&decide (irem .i64 a1.I (a0.Seen.length:Int)<(a0.Seen.length:Int))) (Option.bind (a0.Seen[(irem .i64 a1.I (a0.Seen.length:Int)).toNat]?) fun e5=>
  k4 e5) none)))
  (k4 (⟨(⟨0,0⟩:G.Addr),(⟨0,0⟩:G.Addr),[]⟩:G.Wire))) fun k2=>
  cond (decide (a1.Kind≥7))
  (k2 (decide (a1.Kind≤10)))
  (k2 false)
def spec_l26Events.raw (a0:G.Cur) (a1:Int) (a2:Bool):Option (G.World × (List G.Event) × G.World × G.Cur):=
  Option.bind (spec_l26New.raw a0) fun r1=>
  Option.bind (cpy r1.1) fun r2=>
  Option.bind (spec_l1Below.raw r1.2 a1) fun r3=>
  joinK (fun (y4:(List G.Event) × G.Cur × Int × G.World)=>
  some (r1.1,y4.1,y4.2.2.2,y4.2.1)) fun k5=>
  loopK FU (fun (x6:(List G.Event) × Int × G.Cur × Int × G.World) k7=>
  cond (decide (x6.2.1>0))
  (Option.bind (spec_l26Pick.raw x6.2.2.1 x6.2.2.2.2 x6.2.2.2.1 a2) fun r8=>
  cond (decide (x6.1.length+[r8.1].length≤LIM)) (Option.bind (cpy x6.2.2.2.2) fun r9=>
  joinK (fun (y10:Bool × G.World)=>
  joinK (fun (y13:G.World)=>
  k7 ((x6.1++[r8.1]),(isub .i64 x6.2.1 1),r8.2.1,r8.2.2,y13)) fun k14=>
  cond (y10.1)
  (k14 y10.2)
  (k14 x6.2.2.2.2)) fun k11=>
  cond (decide ((x6.2.2.2.2.Notes.length:Int)≤500))
  (cond ((eventOk r8.1))
  (Option.bind (spec_l26Do.raw r9 r8.1) fun r12=>
  k11 (r12.1,r12.2))
  (k11 (false,r9)))
  (k11 (false,r9))) none)
  (k5 (x6.1,x6.2.2.1,x6.2.2.2.1,x6.2.2.2.2))) ([],(iadd .i64 4 r3.1),r3.2,0,r2)
def spec_l26World.raw (a0:G.Cur) (a1:Int):Option (G.World × G.Cur):=
  Option.bind (spec_l1Once.raw a0 3) fun r1=>
  Option.bind (spec_l26Events.raw r1.2 a1 (!r1.1)) fun r2=>
  some (r2.2.2.1,r2.2.2.2)
end
end Go.D
namespace Go.D
end Go.D
namespace Go.D
theorem copyLoop {α σ R:Type} [Wt α] (l:List α) (hl:wt l≤LIM) (st:Int→List α→σ) (K:List α→Option R) {f:σ→(σ→Option R)→Option R}
    (hf:∀ (i:Nat) (hi:i<l.length) (acc:List α) (k:σ→Option R),f (st (i:Int) acc) k=cond (decide (acc.length+1≤LIM)) (k (st (iadd .i64 (i:Int) 1) (acc++[l[i]]))) none)
    (hz:∀ (acc:List α) (k:σ→Option R),f (st (l.length:Int) acc) k=K acc):loopK FU f (st 0 [])=K l:=by
  have hL:=LIM_is
  have hll:=wt_len l
  have key:∀ (n i:Nat),i≤l.length→l.length - i<n→loopK n f (st (i:Int) (l.take i))=K l:=by
    intro n
    induction n with
    | zero=>intro i _ h;omega
    | succ n ih=>
      intro i hi hn
      show f (st (i:Int) (l.take i)) (loopK n f)=K l
      rcases Nat.lt_or_ge i l.length with h | h
      · rw [hf i h]
        have h1:decide ((l.take i).length+1≤LIM)=true:=by
          rw [List.length_take];simp;omega
        rw [h1,cond_true]
        have h2:iadd .i64 (i:Int) 1=((i+1:Nat):Int):=iadd_nat i (by rw [maxLen_is];omega)
        rw [h2,List.take_append_getElem h]
        exact ih (i+1) h (by omega)
      · have:i=l.length:=by omega
        subst this
        rw [hz,List.take_length]
  rw [FU_eq]
  exact key _ 0 (Nat.zero_le _) (by omega)
theorem guard0 {α β:Type} {l:List α} {x:Option β} (h:l.length≤LIM):cond (decide (([]:List α).length+l.length≤LIM)) x none=x:=by
  rw [decide_eq_true (by simpa using h)];rfl
theorem cpyB {α β:Type} [Wt α] {a:α} {f:α→Option β} (h:wt a≤LIM):Option.bind (cpy a) f=f a:=pt_bind h
theorem spec_l8Copy_raw (x:G.Win) (h:wt x≤LIM):spec_l8Copy.raw x=some x:=by
  rw [wt_Win,wt_ints] at h
  unfold spec_l8Copy.raw
  rw [guard0 h];rfl
theorem spec_l9Copy_raw (x:G.Ep) (h:wt x≤LIM):spec_l9Copy.raw x=some x:=by
  rw [wt_Ep,wt_bytes] at h
  unfold spec_l9Copy.raw
  rw [guard0 (by omega),cpyB (by omega)];rfl
theorem spec_l14Ep_raw (x:G.Ep) (b:Bool) (h:wt x≤LIM):spec_l14Ep.raw x b=some x:=by
  unfold spec_l14Ep.raw
  rw [cpyB h]
  rw [wt_Ep,wt_Win,wt_ints,wt_bytes] at h
  rw [guard0 (by omega),guard0 (by omega)]
  cases b <;> rfl
theorem spec_l14Copy_raw (x:G.Chan) (h:wt x≤LIM):spec_l14Copy.raw x=some x:=by
  rw [wt_Chan,wt_bytes,wt_bytes] at h
  unfold spec_l14Copy.raw
  rw [guard0 (by omega),cpyB (by omega),epCopyO,pt_bind (by omega),guard0 (by omega)];rfl
theorem spec_l16Copy_raw (x:G.Paths) (h:wt x≤LIM):spec_l16Copy.raw x=some x:=by
  have hw:wt x=wt x.Cands:=by rw [wt_Paths,wt_Addr];omega
  rw [hw] at h
  unfold spec_l16Copy.raw
  simp only [joinK]
  refine copyLoop x.Cands h (fun i acc=>(i,(⟨x.At,acc⟩:G.Paths))) (fun acc=>some (⟨x.At,acc⟩:G.Paths)) (fun i hi acc k=>?_) (fun acc k=>?_)
  · have hi':((i:Int)<(x.Cands.length:Int)):=by omega
    have hm:=wt_get hi
    simp only [decide_eq_true hi',cond_true,idxI_get hi,bind_some']
    rw [candCopyO,pt_bind (by omega)];rfl
  · have hi':¬ ((x.Cands.length:Int)<(x.Cands.length:Int)):=by omega
    simp only [decide_eq_false hi',cond_false]
theorem spec_l20Copy_raw (x:G.Sess) (h:wt x≤LIM):spec_l20Copy.raw x=some x:=by
  rw [wt_Sess,wt_bytes,wt_bytes] at h
  unfold spec_l20Copy.raw
  rw [guard0 (by omega),guard0 (by omega),cpyB (by omega),cpyB (by omega)];rfl
theorem spec_l21Copy_raw (x:G.Tab) (h:wt x≤LIM):spec_l21Copy.raw x=some x:=by
  rw [wt_Tab] at h
  unfold spec_l21Copy.raw
  simp only [joinK]
  refine copyLoop x.L h (fun i acc=>(i,(⟨x.Cap,acc⟩:G.Tab))) (fun acc=>some (⟨x.Cap,acc⟩:G.Tab)) (fun i hi acc k=>?_) (fun acc k=>?_)
  · have hi':((i:Int)<(x.L.length:Int)):=by omega
    have hm:=wt_get hi
    simp only [decide_eq_true hi',cond_true,idxI_get hi,bind_some']
    rw [cpyB (by omega)];rfl
  · have hi':¬ ((x.L.length:Int)<(x.L.length:Int)):=by omega
    simp only [decide_eq_false hi',cond_false]
theorem spec_l22Copy_raw (x:G.Server) (h:wt x≤LIM):spec_l22Copy.raw x=some x:=by
  rw [wt_Server,wt_Jar,wt_bytes] at h
  have hc:=wt_len x.Cr
  unfold spec_l22Copy.raw
  rw [guard0 (by omega),diceCopyO,pt_bind (by omega),cpyB (by omega),guard0 (by omega)]
  simp only [joinK]
  refine copyLoop x.Psks (by omega) (fun i acc=>(i,(⟨acc,(⟨[]++x.J.Secret⟩:G.Jar),x.D,x.T,[]++x.Cr⟩:G.Server))) (fun acc=>some (⟨acc,(⟨[]++x.J.Secret⟩:G.Jar),x.D,x.T,[]++x.Cr⟩:G.Server)) (fun i hi acc k=>?_) (fun acc k=>?_)
  · have hi':((i:Int)<(x.Psks.length:Int)):=by omega
    have hm:=wt_get hi
    rw [wt_bytes] at hm
    simp only [decide_eq_true hi',cond_true,idxI_get hi,bind_some']
    rw [guard0 (by omega)];rfl
  · have hi':¬ ((x.Psks.length:Int)<(x.Psks.length:Int)):=by omega
    simp only [decide_eq_false hi',cond_false]
theorem spec_l23Copy_raw (x:List G.Wire) (h:wt x≤LIM):spec_l23Copy.raw x=some x:=by
  unfold spec_l23Copy.raw
  simp only [joinK]
  refine copyLoop x h (fun i acc=>(acc,i)) (fun acc=>some acc) (fun i hi acc k=>?_) (fun acc k=>?_)
  · have hi':((i:Int)<(x.length:Int)):=by omega
    have hm:=wt_get hi
    rw [wt_Wire,wt_bytes] at hm
    simp only [decide_eq_true hi',cond_true,idxI_get hi,bind_some']
    rw [guard0 (by omega)];rfl
  · have hi':¬ ((x.length:Int)<(x.length:Int)):=by omega
    simp only [decide_eq_false hi',cond_false]
theorem spec_l18Copy_raw (x:G.Note) (h:wt x≤LIM):spec_l18Copy.raw x=some x:=by
  rw [wt_Note,wt_bytes,wt_bytes,wt_bytes,wt_bytes] at h
  unfold spec_l18Copy.raw
  rw [guard0 (by omega),guard0 (by omega),guard0 (by omega),guard0 (by omega)];rfl
theorem spec_l18All_raw (x:List G.Note) (h:wt x≤LIM):spec_l18All.raw x=some x:=by
  unfold spec_l18All.raw
  simp only [joinK]
  refine copyLoop x h (fun i acc=>(acc,i)) (fun acc=>some acc) (fun i hi acc k=>?_) (fun acc k=>?_)
  · have hi':((i:Int)<(x.length:Int)):=by omega
    have hm:=wt_get hi
    simp only [decide_eq_true hi',cond_true,idxI_get hi,bind_some']
    rw [cpyB (by omega)];rfl
  · have hi':¬ ((x.length:Int)<(x.length:Int)):=by omega
    simp only [decide_eq_false hi',cond_false]
theorem spec_l7Copy_raw (x:G.Frame) (h:wt x≤LIM):spec_l7Copy.raw x=some x:=by
  rw [wt_Frame,wt_bytes,wt_bytes,wt_bytes,wt_bytes,wt_bytes,wt_bytes] at h
  unfold spec_l7Copy.raw
  rw [guard0 (by omega),guard0 (by omega),guard0 (by omega),guard0 (by omega),guard0 (by omega),guard0 (by omega)];rfl
theorem spec_l19Copy_raw (x:G.Client) (h:wt x≤LIM):spec_l19Copy.raw x=some x:=by
  rw [wt_Client,wt_bytes,wt_bytes] at h
  unfold spec_l19Copy.raw
  rw [guard0 (by omega),guard0 (by omega),cpyB (by omega),cpyB (by omega)];rfl
theorem spec_l25Copy_raw (x:G.World) (h:wt x≤LIM):spec_l25Copy.raw x=some x:=by
  rw [wt_World] at h
  unfold spec_l25Copy.raw
  rw [cpyB (by omega),diceCopyO,pt_bind (by omega),cpyB (by omega),cpyB (by omega)]
  have key2:∀ w:G.World,w.Known=[]→loopK FU (fun (x13:Int × G.World) k14=>
      cond (decide (x13.1<(x.Known.length:Int)))
      (Option.bind (idxI x.Known x13.1) fun e15=>
      cond (decide (([]:List UInt8).length+e15.length≤LIM)) (cond (decide (x13.2.Known.length+[[]++e15].length≤LIM)) (k14 ((iadd .i64 x13.1 1),(⟨x13.2.Now,x13.2.Clients,x13.2.S,x13.2.D,x13.2.Seen,x13.2.Known++[[]++e15],x13.2.Notes⟩:G.World))) none) none)
      (some x13.2)) (0,w)=some (⟨w.Now,w.Clients,w.S,w.D,w.Seen,x.Known,w.Notes⟩:G.World):=fun w hw=>by
    obtain ⟨w1,w2,w3,w4,w5,w6,w7⟩:=w
    cases hw
    refine copyLoop x.Known (by omega) (fun i acc=>(i,(⟨w1,w2,w3,w4,w5,acc,w7⟩:G.World))) (fun acc=>some (⟨w1,w2,w3,w4,w5,acc,w7⟩:G.World)) (fun i hi acc k=>?_) (fun acc k=>?_)
    · have hi':((i:Int)<(x.Known.length:Int)):=by omega
      have hm:=wt_get hi
      rw [wt_bytes] at hm
      simp only [decide_eq_true hi',cond_true,idxI_get hi,bind_some']
      rw [guard0 (by omega)];rfl
    · have hi':¬ ((x.Known.length:Int)<(x.Known.length:Int)):=by omega
      simp only [decide_eq_false hi',cond_false]
  simp only [joinK]
  refine copyLoop x.Clients (by omega) (fun i acc=>(i,(⟨x.Now,acc,x.S,x.D,x.Seen,[],x.Notes⟩:G.World))) (fun acc=>some (⟨x.Now,acc,x.S,x.D,x.Seen,x.Known,x.Notes⟩:G.World)) (fun i hi acc k=>?_) (fun acc k=>?_)
  · have hi':((i:Int)<(x.Clients.length:Int)):=by omega
    have hm:=wt_get hi
    simp only [decide_eq_true hi',cond_true,idxI_get hi,bind_some']
    rw [cpyB (by omega)];rfl
  · have hi':¬ ((x.Clients.length:Int)<(x.Clients.length:Int)):=by omega
    simp only [decide_eq_false hi',cond_false]
    exact key2 _ rfl
theorem spec_l8Copy.ok {x:TyTup [.v .Win]} (_:bdTup [.v .Win] x) {r:G.Win}:cpy (α:=G.Win) x=some r→spec_l8Copy.raw x=some r:=pt_ok fun h=>spec_l8Copy_raw x h
theorem spec_l9Copy.ok {x:TyTup [.v .Ep]} (_:bdTup [.v .Ep] x) {r:G.Ep}:cpy (α:=G.Ep) x=some r→spec_l9Copy.raw x=some r:=pt_ok fun h=>spec_l9Copy_raw x h
theorem spec_l14Copy.ok {x:TyTup [.v .Chan]} (_:bdTup [.v .Chan] x) {r:G.Chan}:cpy (α:=G.Chan) x=some r→spec_l14Copy.raw x=some r:=pt_ok fun h=>spec_l14Copy_raw x h
theorem spec_l16Copy.ok {x:TyTup [.v .Paths]} (_:bdTup [.v .Paths] x) {r:G.Paths}:cpy (α:=G.Paths) x=some r→spec_l16Copy.raw x=some r:=pt_ok fun h=>spec_l16Copy_raw x h
theorem spec_l20Copy.ok {x:TyTup [.v .Sess]} (_:bdTup [.v .Sess] x) {r:G.Sess}:cpy (α:=G.Sess) x=some r→spec_l20Copy.raw x=some r:=pt_ok fun h=>spec_l20Copy_raw x h
theorem spec_l21Copy.ok {x:TyTup [.v .Tab]} (_:bdTup [.v .Tab] x) {r:G.Tab}:cpy (α:=G.Tab) x=some r→spec_l21Copy.raw x=some r:=pt_ok fun h=>spec_l21Copy_raw x h
theorem spec_l22Copy.ok {x:TyTup [.v .Server]} (_:bdTup [.v .Server] x) {r:G.Server}:cpy (α:=G.Server) x=some r→spec_l22Copy.raw x=some r:=pt_ok fun h=>spec_l22Copy_raw x h
theorem spec_l23Copy.ok {x:TyTup [.sl .Wire]} (_:bdTup [.sl .Wire] x) {r:List G.Wire}:cpy (α:=List G.Wire) x=some r→spec_l23Copy.raw x=some r:=pt_ok fun h=>spec_l23Copy_raw x h
theorem spec_l18Copy.ok {x:TyTup [.v .Note]} (_:bdTup [.v .Note] x) {r:G.Note}:cpy (α:=G.Note) x=some r→spec_l18Copy.raw x=some r:=pt_ok fun h=>spec_l18Copy_raw x h
theorem spec_l18All.ok {x:TyTup [.sl .Note]} (_:bdTup [.sl .Note] x) {r:List G.Note}:cpy (α:=List G.Note) x=some r→spec_l18All.raw x=some r:=pt_ok fun h=>spec_l18All_raw x h
theorem spec_l7Copy.ok {x:TyTup [.v .Frame]} (_:bdTup [.v .Frame] x) {r:G.Frame}:cpy (α:=G.Frame) x=some r→spec_l7Copy.raw x=some r:=pt_ok fun h=>spec_l7Copy_raw x h
theorem spec_l19Copy.ok {x:TyTup [.v .Client]} (_:bdTup [.v .Client] x) {r:G.Client}:cpy (α:=G.Client) x=some r→spec_l19Copy.raw x=some r:=pt_ok fun h=>spec_l19Copy_raw x h
theorem spec_l25Copy.ok {x:TyTup [.v .World]} (_:bdTup [.v .World] x) {r:G.World}:cpy (α:=G.World) x=some r→spec_l25Copy.raw x=some r:=pt_ok fun h=>spec_l25Copy_raw x h
theorem spec_l14Ep.ok {x:TyTup [.v .Ep, .v .bool]} (_:bdTup [.v .Ep, .v .bool] x) {r:G.Ep}:epCopyO x.1 x.2=some r→spec_l14Ep.raw x.1 x.2=some r:=pt_ok fun h=>spec_l14Ep_raw x.1 x.2 h
end Go.D
namespace Go.D
instance:Wt G.Out:=⟨fun x=>wt x.To+wt x.F⟩
theorem wt_Out (x:G.Out):wt x=wt x.To+wt x.F:=rfl
instance:Wt Nat:=⟨fun _=>0⟩
theorem Ok.guard {α γ β:Type} [Wt α] [Wt γ] {l:List α} {m:List γ} {x:Option β} {P:β→Prop} (h:wt l+wt m≤LIM) (k:Ok x P):Ok (cond (decide (l.length+m.length≤LIM)) x none) P:=by
  have h1:=wt_len l
  have h2:=wt_len m
  rw [decide_eq_true (by omega)];exact k
theorem Ok.ble {α β:Type} [Wt α] {l:List α} {x:Option β} {P:β→Prop} (h:wt l≤LIM) (k:Ok x P):Ok (cond (Nat.ble l.length LIM) x none) P:=by
  have h1:=wt_len l
  rw [Nat.ble_eq_true_of_le (by omega)];exact k
theorem Ok.chk {β:Type} {b:Bool} {x:Option β} {P:β→Prop} (h:b=true) (k:Ok x P):Ok (cond b x none) P:=by rw [h];exact k
theorem Ok.chkn {β:Type} {b:Bool} {x:Option β} {P:β→Prop} (h:b=false) (k:Ok x P):Ok (cond b none x) P:=by rw [h];exact k
theorem Ok.join {α β:Type} {F:α→Option β} {G:(α→Option β)→Option β} {P:β→Prop} (Q:α→Prop) (h1:∀ y,Q y→Ok (F y) P) (h2:∀ k:α→Option β,(∀ y,Q y→Ok (k y) P)→Ok (G k) P):
    Ok (joinK F G) P:=h2 F h1
theorem Ok.idx {α:Type} {l:List α} {i:Int} (h0:0≤i) (h1:i<(l.length:Int)):Ok (idxI l i) fun x=>l[i.toNat]?=some x:=by
  obtain ⟨j,rfl⟩:=Int.eq_ofNat_of_zero_le h0
  have hj:j<l.length:=by omega
  exact ⟨l[j],idxI_get hj,by rw [Int.toNat_natCast,List.getElem?_eq_getElem hj]⟩
theorem Ok.get {α:Type} {l:List α} {i:Nat} (h:i<l.length):Ok (l[i]?) fun x=>l[i]?=some x:=⟨l[i],List.getElem?_eq_getElem h,List.getElem?_eq_getElem h⟩
theorem Ok.same {α β:Type} {o:Option α} {a:α} {f:α→Option β} {P:β→Prop} (h:o=some a) (k:Ok (f a) P):Ok (Option.bind o f) P:=by rw [h];exact k
theorem wt_at {α:Type} [Wt α] {l:List α} {i:Nat} {x:α} (h:l[i]?=some x):wt x+1≤wt l:=wt_mem (List.mem_of_getElem? h)
theorem wt_set_le {α:Type} [Wt α]:∀ (l:List α) (i:Nat) (x:α),wt (l.set i x)≤wt l+wt x
  | [],i,x=>by simp [wt_nil]
  | y :: l,0,x=>by rw [List.set_cons_zero,wt_cons,wt_cons];omega
  | y :: l,i+1,x=>by rw [List.set_cons_succ,wt_cons,wt_cons];have:=wt_set_le l i x;omega
theorem inR_true {x a b:Int}:inR x a b=true↔a≤x∧x≤b:=by simp [inR]
theorem inR_false {x a b:Int}:inR x a b=false↔¬ (a≤x∧x≤b):=by rw [← Bool.not_eq_true,inR_true]
theorem iadd_eq {a b:Int} (h1: -9223372036854775808≤a+b) (h2:a+b≤9223372036854775807):iadd .i64 a b=a+b:=wrap_i64 h1 h2
theorem isub_eq {a b:Int} (h1: -9223372036854775808≤a - b) (h2:a - b≤9223372036854775807):isub .i64 a b=a - b:=wrap_i64 h1 h2
theorem irem_eq {a b:Int} (h1:0≤a):irem .i64 a b=a % b:=Int.tmod_eq_emod_of_nonneg h1
theorem epOk_f {e:G.Ep} (h:epOk e=true):e.Key.length=32∧e.Win.Bits.length=32:=by
  simp only [epOk,winOk,areWords,Bool.and_eq_true,beq_iff_eq] at h
  omega
theorem winOk_f {w:G.Win} (h:winOk w=true):w.Bits.length=32∧ -1≤w.Top∧w.Top≤281474976710655:=by
  simp only [winOk,areWords,Bool.and_eq_true,beq_iff_eq,inR_true] at h
  omega
theorem frameOk_f {f:G.Frame} (h:frameOk f=true):f.Cn.length≤12∧f.Sn.length≤12∧f.Cookie.length≤16∧f.Proof.length≤16∧f.Body.length≤40∧f.Tag.length≤16∧(f.Kind=3→1≤f.Id∧f.Id≤9):=by
  unfold frameOk at h
  cases hs:isSealed f.Kind
  · rw [hs,cond_false] at h
    simp only [Bool.and_eq_true,beq_iff_eq] at h
    obtain ⟨⟨⟨⟨⟨h1,h2⟩,h3⟩,h4⟩,h5⟩,h6⟩:=h
    by_cases k1:f.Kind=1
    · simp only [k1,beq_self_eq_true,cond_true,Bool.and_eq_true,beq_iff_eq,inR_true] at h6;omega
    · have k1':(f.Kind==1)=false:=by simpa using k1
      rw [k1',cond_false] at h6
      by_cases k2:f.Kind=2
      · simp only [k2,beq_self_eq_true,cond_true,Bool.and_eq_true,beq_iff_eq,inR_true] at h6;omega
      · have k2':(f.Kind==2)=false:=by simpa using k2
        simp only [k2',cond_false,Bool.and_eq_true,beq_iff_eq,inR_true] at h6
        omega
  · rw [hs,cond_true] at h
    simp only [Bool.and_eq_true,beq_iff_eq,inR_true] at h
    have hb:f.Body.length≤40:=by
      have hb:=h.1.2
      unfold bodyOk at hb
      cases k4:f.Kind==4 <;> rw [k4] at hb
      · cases k5:f.Kind==5||f.Kind==6 <;> rw [k5] at hb <;> simp at hb <;> omega
      · simp at hb;omega
    unfold isSealed at hs
    rw [inR_true] at hs
    omega
theorem noEp_f {e:G.Ep} (h:noEp e=true):e.Key.length=0∧e.Win.Bits.length=0:=by
  simp only [noEp,Bool.and_eq_true,beq_iff_eq] at h
  omega
theorem chanOk_f {c:G.Chan} (h:chanOk c=true):wt c≤172∧c.Sn.length=12∧c.Cur.Key.length=32:=by
  simp only [chanOk,oldOk,isNonce,Bool.and_eq_true,Bool.or_eq_true,beq_iff_eq] at h
  obtain ⟨⟨⟨⟨h1,h2⟩,h3⟩,h4⟩,h5⟩:=h
  have h3:=epOk_f h3
  have h6:c.Old.Key.length≤32∧c.Old.Win.Bits.length≤32:=by
    cases ho:c.HasOld
    · rw [ho,cond_false,Bool.and_eq_true] at h4
      have:=noEp_f h4.1;omega
    · rw [ho,cond_true] at h4
      simp only [Bool.and_eq_true] at h4
      have:=epOk_f h4.1.1;omega
  simp only [wt_Chan,wt_Ep,wt_Win,wt_bytes,wt_ints]
  omega
theorem noChan_f {c:G.Chan} (h:noChan c=true):wt c=0:=by
  simp only [noChan,Bool.and_eq_true,beq_iff_eq] at h
  obtain ⟨⟨⟨⟨⟨⟨h1,h2⟩,h3⟩,h4⟩,h5⟩,h6⟩,h7⟩:=h
  have h3:=noEp_f h3
  have h4:=noEp_f h4
  simp only [wt_Chan,wt_Ep,wt_Win,wt_bytes,wt_ints]
  omega
theorem noFrame_f {f:G.Frame} (h:noFrame f=true):wt f=0:=by
  simp only [noFrame,Bool.and_eq_true,beq_iff_eq] at h
  simp only [wt_Frame,wt_bytes]
  omega
theorem wt_bound {α:Type} [Wt α] (n:Nat):∀ l:List α,(∀ x ∈ l,wt x≤n)→wt l≤(n+1) *l.length
  | [],_=>by simp [wt_nil]
  | x :: l,h=>by
    have h1:=h x (by simp)
    have h2:=wt_bound n l fun y hy=>h y (by simp [hy])
    rw [wt_cons,List.length_cons,Nat.mul_add];omega
theorem anyN_none {n:Nat} {p:Nat→Bool} (h:(!anyN n p)=true) {i:Nat} (hi:i<n):p i=false:=by
  cases hp:p i
  · rfl
  · have:anyN n p=true:=anyN_iff.2 ⟨i,hi,hp⟩
    rw [this] at h;cases h
theorem pathsOk_f {p:G.Paths} (h:pathsOk p=true):wt p≤39∧p.Cands.length≤3:=by
  simp only [pathsOk,Bool.and_eq_true,decide_eq_true_eq] at h
  obtain ⟨⟨h1,h2⟩,h3⟩:=h
  have hb:wt p.Cands≤(12+1) *p.Cands.length:=wt_bound 12 p.Cands fun x hx=>by
    obtain ⟨i,hi,rfl⟩:=List.mem_iff_getElem.1 hx
    have:=anyN_none h3 hi
    unfold candBad at this
    rw [List.getElem?_eq_getElem hi] at this
    simp only [Option.any_some,Bool.or_eq_false_iff,Bool.not_eq_false',isNonce,beq_iff_eq] at this
    simp only [wt_Cand,wt_Addr,wt_bytes]
    omega
  simp only [wt_Paths,wt_Addr]
  omega
theorem sessOk_f {s:G.Sess} (h:sessOk s=true):wt s≤235∧s.Sn.length=12:=by
  simp only [sessOk,isNonce,Bool.and_eq_true,beq_iff_eq] at h
  obtain ⟨⟨⟨⟨h1,h2⟩,h3⟩,h4⟩,h5⟩:=h
  have h6:wt s.C+wt s.P≤211:=by
    cases hd:s.Dead
    · rw [hd,cond_false] at h5
      simp only [Bool.and_eq_true] at h5
      have:=chanOk_f h5.1.1.1.1
      have:=pathsOk_f h5.1.2
      omega
    · rw [hd,cond_true] at h5
      simp only [Bool.and_eq_true,beq_iff_eq] at h5
      have:=noChan_f h5.1.1.1
      have hl:s.P.Cands=[]:=List.eq_nil_of_length_eq_zero (by omega)
      have:wt s.P=0:=by rw [wt_Paths,hl,wt_Addr];rfl
      omega
  simp only [wt_Sess,wt_bytes]
  omega
theorem tabOk_f {t:G.Tab} (h:tabOk t=true):wt t≤2832∧t.L.length≤12:=by
  simp only [tabOk,Bool.and_eq_true,decide_eq_true_eq] at h
  obtain ⟨⟨⟨h1,h2⟩,h3⟩,h4⟩:=h
  have hb:wt t.L≤(235+1) *t.L.length:=wt_bound 235 t.L fun x hx=>by
    obtain ⟨i,hi,rfl⟩:=List.mem_iff_getElem.1 hx
    have:=anyN_none h4 hi
    unfold sessBad at this
    rw [List.getElem?_eq_getElem hi] at this
    simp only [Option.any_some,Bool.or_eq_false_iff,Bool.not_eq_false'] at this
    exact (sessOk_f this.1).1
  rw [wt_Tab]
  omega
theorem creditsOk_f {l:List G.Credit} (h:creditsOk l=true):wt l≤8∧l.length≤8:=by
  simp only [creditsOk,Bool.and_eq_true,decide_eq_true_eq] at h
  have:=wt_plain (α:=G.Credit) (fun _=>rfl) l
  omega
theorem pskOk_f {b:List UInt8} (h:pskOk b=true):1≤b.length∧b.length≤32:=by
  simp only [pskOk,inR_true] at h;omega
theorem addrOk_f {a:G.Addr} (h:addrOk a=true):0≤a.Host∧a.Host≤4294967295∧0≤a.Port∧a.Port≤65535:=by
  simp only [addrOk,Bool.and_eq_true,inR_true] at h;omega
theorem jarOk_f {j:G.Jar} (h:jarOk j=true):j.Secret.length=32:=by
  simp only [jarOk,beq_iff_eq] at h;omega
theorem diceOk_f {d:G.Dice} (h:diceOk d=true):d.Seed.length≤32:=by
  simp only [diceOk,Bool.and_eq_true,inR_true] at h;omega
def SF (s:G.Server):Prop:=wt s≤3300∧s.T.L.length≤12∧s.Psks.length≤9∧s.J.Secret.length=32
theorem serverOk_f {s:G.Server} (h:serverOk s=true):SF s:=by
  simp only [serverOk,Bool.and_eq_true,inR_true] at h
  obtain ⟨⟨⟨⟨⟨⟨h1,h2⟩,h3⟩,h4⟩,h5⟩,h6⟩,h7⟩:=h
  have h2:=jarOk_f h2
  have h3:=diceOk_f h3
  have h4:=tabOk_f h4
  have h5:=creditsOk_f h5
  have hb:wt s.Psks≤(32+1) *s.Psks.length:=wt_bound 32 s.Psks fun x hx=>by
    rw [Bool.not_eq_true',List.any_eq_false] at h6
    have:=h6 x hx
    simp only [Bool.not_eq_true',Bool.not_eq_false] at this
    have:=pskOk_f this
    rw [wt_bytes];omega
  simp only [SF,wt_Server,wt_Jar,wt_Dice,wt_bytes]
  omega
def CF (c:G.Client):Prop:=wt c≤350∧1≤c.Id∧c.Id≤9∧1≤c.Psk.length∧c.Psk.length≤32∧0≤c.At.Host∧c.At.Host≤4294967295∧0≤c.At.Port∧c.At.Port≤65535
theorem clientOk_f {c:G.Client} (h:clientOk c=true):CF c:=by
  simp only [clientOk,Bool.and_eq_true,inR_true] at h
  obtain ⟨⟨⟨h1,h2⟩,h3⟩,h4⟩:=h
  have h2:=pskOk_f h2
  have h3:=addrOk_f h3
  have h5:wt c.Cn+wt c.Fin+wt c.C≤310:=by
    cases k0:c.St==0
    · rw [k0,cond_false] at h4
      cases k1:c.St==1
      · rw [k1,cond_false] at h4
        cases k2:c.St==2
        · rw [k2,cond_false] at h4
          simp only [Bool.and_eq_true,isNonce,beq_iff_eq] at h4
          obtain ⟨⟨⟨⟨⟨⟨⟨⟨_,a1⟩,a2⟩,a3⟩,_⟩,_⟩,_⟩,_⟩,_⟩:=h4
          have a2:=noFrame_f a2
          have a3:=chanOk_f a3
          rw [wt_bytes];omega
        · rw [k2,cond_true] at h4
          simp only [Bool.and_eq_true] at h4
          have hf:=h4.1.1.1.1
          simp only [finishOk,Bool.and_eq_true,isNonce,beq_iff_eq] at hf
          obtain ⟨⟨⟨⟨⟨⟨⟨⟨⟨⟨a1,_⟩,a2⟩,_⟩,_⟩,a3⟩,_⟩,_⟩,_⟩,_⟩,_⟩:=hf
          have a2:=frameOk_f a2
          have a3:=chanOk_f a3
          simp only [wt_Frame,wt_bytes];omega
      · rw [k1,cond_true] at h4
        simp only [Bool.and_eq_true,isNonce,beq_iff_eq] at h4
        obtain ⟨⟨⟨⟨⟨⟨a1,a2⟩,a3⟩,_⟩,_⟩,_⟩,_⟩:=h4
        have a2:=noFrame_f a2
        have a3:=noChan_f a3
        rw [wt_bytes];omega
    · rw [k0,cond_true] at h4
      simp only [Bool.and_eq_true,beq_iff_eq] at h4
      obtain ⟨⟨⟨⟨⟨a1,a2⟩,a3⟩,_⟩,_⟩,_⟩:=h4
      have a2:=noFrame_f a2
      have a3:=noChan_f a3
      rw [wt_bytes];omega
  simp only [CF,wt_Client,wt_Addr,wt_Timer,wt_bytes] at h5 ⊢
  omega
theorem pt_t {α:Type} {p:Prop} {x:α} {P:α→Prop} (h:p) (k:P x):Ok (pt p x) P:=⟨x,pt_some h,k⟩
theorem clientOkO_t {c:G.Client} (h:wt c≤LIM):Ok (clientOkO c) fun r=>r=true→CF c:=pt_t h clientOk_f
theorem chanOkO_t {c:G.Chan} (h:wt c≤LIM):Ok (chanOkO c) fun r=>r=true→wt c≤172:=pt_t h fun k=>(chanOk_f k).1
theorem sessOkO_t {c:G.Sess} (h:wt c≤LIM):Ok (sessOkO c) fun r=>r=true→wt c≤235:=pt_t h fun k=>(sessOk_f k).1
theorem tabOkO_t {c:G.Tab} (h:wt c≤LIM):Ok (tabOkO c) fun r=>r=true→wt c≤2832∧c.L.length≤12:=pt_t h tabOk_f
theorem serverOkO_t {c:G.Server} (h:wt c≤LIM):Ok (serverOkO c) fun r=>r=true→SF c:=pt_t h serverOk_f
theorem putNO_t {b:List UInt8} {n k:Int} (h:wt b+6≤LIM):Ok (putNO b n k) fun r=>r.length≤b.length+6:=pt_t h (by
  unfold putN
  cases hc:decide (k<1)||decide (k>6)
  · rw [cond_false,List.length_append,bytesOf_len]
    simp only [Bool.or_eq_false_iff,decide_eq_false_iff_not] at hc
    omega
  · rw [cond_true];omega)
theorem getNO_t {b:List UInt8} {n k:Int} (h:wt b≤LIM):Ok (getNO b n k) fun _=>True:=pt_t h trivial
theorem hmac_le (k b:List UInt8):(hmac k b).length≤32:=by
  unfold hmac
  cases decide ((k.length:Int)>1048576)||decide ((b.length:Int)>1048512)
  · exact sha_le _
  · exact Nat.zero_le _
theorem rollO_t {d:G.Dice} (h:wt d≤LIM):Ok (rollO d) fun r=>wt r.1≤wt d∧r.2.length≤12:=pt_t h (by
  unfold rollD
  cases !diceOk d||d.N==10000
  · exact ⟨Nat.le_refl _,diceAt_le _ _⟩
  · exact ⟨Nat.le_refl _,Nat.zero_le _⟩)
theorem deriveO_t {k l:List UInt8} (h:wt l≤LIM):Ok (deriveO k l) fun r=>r.length≤32:=pt_t h (derive_le k l)
theorem findSn_bd (t:G.Tab) (b:List UInt8): -1≤findSn t b∧findSn t b<(t.L.length:Int):=by
  unfold findSn
  rcases findI_cases t.L.length (hasSn t b) with ⟨_,h⟩ | ⟨m,h1,_,_,h⟩ <;> rw [h] <;> omega
theorem cAt_bd (l:List G.Credit) (a:G.Addr): -1≤cAt l a∧cAt l a<(l.length:Int):=by
  unfold cAt
  rcases findI_cases l.length (hasA l a) with ⟨_,h⟩ | ⟨m,h1,_,_,h⟩ <;> rw [h] <;> omega
theorem findSnO_t {t:G.Tab} {b:List UInt8} (h:wt t≤LIM∧wt b≤LIM):Ok (findSnO t b) fun r=> -1≤r∧r<(t.L.length:Int):=pt_t h (findSn_bd t b)
theorem liveO_t {t:G.Tab} (h:wt t≤LIM):Ok (liveO t) fun _=>True:=pt_t h trivial
theorem sameO_t {a b:List UInt8} (h:wt a≤LIM∧wt b≤LIM):Ok (sameO a b) fun _=>True:=pt_t h trivial
theorem bitO_t {w:G.Win} {n:Int} (h:0≤n∧w.Bits.length=32):Ok (bitO w n) fun _=>True:=pt_t h trivial
theorem clientNewO_t {id:Int} {p:List UInt8} {a:G.Addr} (h:wt p≤LIM) (h1:1≤id∧id≤9) (h2:1≤p.length∧p.length≤32) (h3:0≤a.Host∧a.Host≤4294967295∧0≤a.Port∧a.Port≤65535):
    Ok (clientNewO id p a) fun r=>wt r≤p.length∧r.Id=id:=pt_t h (by
  have e1:inR id 1 9=true:=inR_true.2 h1
  have e2:pskOk p=true:=inR_true.2 (by omega)
  have e3:addrOk a=true:=by
    unfold addrOk
    rw [Bool.and_eq_true,inR_true,inR_true];omega
  unfold clientNew
  rw [e1,e2,e3]
  refine ⟨?_,rfl⟩
  simp only [Bool.and_self,cond_true,clientOf,wt_Client,wt_Addr,wt_Timer,wt_bytes]
  show p.length+0+0+wt frame0+wt chan0+0+0≤p.length
  have:wt frame0=0:=rfl
  have:wt chan0=0:=rfl
  omega)
theorem noteRolledO_s {b:List UInt8} (h:wt b≤LIM):noteRolledO b=some (noteRolled b):=pt_some h
theorem candOfO_t {p:G.Paths} {a:G.Addr} (h:wt p≤LIM):Ok (candOfO p a) fun r=>wt r.1≤39∧(r.2=true→wt p≤39∧p.Cands.length≤3):=pt_t h (by
  unfold candOf
  cases hp:pathsOk p
  · exact ⟨Nat.zero_le _,fun h=>nomatch h⟩
  · have hf:=pathsOk_f hp
    rw [cond_true]
    cases hc:p.Cands.find? fun e=>sameA e.A a with
    | none=>exact ⟨Nat.zero_le _,fun h=>nomatch h⟩
    | some e=>
      have:=wt_mem (List.mem_of_find?_eq_some hc)
      have hw:wt p=wt p.Cands:=by rw [wt_Paths,wt_Addr];omega
      refine ⟨?_,fun _=>hf⟩
      show wt e≤39
      omega)
def idAt (l:List G.Client) (i:Nat):Int:=match l[i]? with
  | some c=>c.Id
  | none=>0
def TW (w:G.World):Prop:=w.Clients.length=2∧idAt w.Clients 0=1∧idAt w.Clients 1=2
theorem idAt_get {l:List G.Client} {i:Nat} {x:G.Client} (h:l[i]?=some x):idAt l i=x.Id:=by unfold idAt;rw [h]
theorem idAt_set {l:List G.Client} {i:Nat} {x:G.Client} (h:x.Id=idAt l i) (hi:i<l.length) (j:Nat):idAt (l.set i x) j=idAt l j:=by
  unfold idAt at h ⊢
  rw [List.getElem?_set]
  by_cases hj:i=j
  · subst hj
    rw [if_pos rfl,if_pos hi]
    exact h
  · rw [if_neg hj]
theorem partyAtO_t {w:G.World} {a:G.Addr} (h:wt w≤LIM) (h2:TW w):Ok (partyAtO w a) fun r=> -1≤r∧r≤2:=pt_t h (by
  unfold partyAt
  cases sameA a hub
  · rw [cond_false]
    cases hc:w.Clients.find? fun c=>sameA c.At a with
    | none=>show -1≤(-1:Int)∧(-1:Int)≤2;omega
    | some c=>
      obtain ⟨i,hi,he⟩:=List.mem_iff_getElem.1 (List.mem_of_find?_eq_some hc)
      have:=idAt_get (List.getElem?_eq_getElem hi)
      rw [he] at this
      obtain ⟨h1,h3,h4⟩:=h2
      show -1≤c.Id∧c.Id≤2
      have:i=0∨i=1:=by omega
      rcases this with rfl | rfl <;> omega
  · rw [cond_true];omega)
theorem mem_at {α:Type} {l:List α} {i:Nat} {x:α} (h:l[i]?=some x):i<l.length:=(List.getElem?_eq_some_iff.1 h).1
theorem int_t {c:G.Cur} {l:List Int} (lo hi:Int) (h:CurOk c) (hl:l≠[]) (hb:∀ x ∈ l,lo≤x∧x≤hi):Ok (spec_l1Int.raw c l) fun r=>(lo≤r.1∧r.1≤hi)∧CurOk r.2:=
  (int_tot h hl).mono fun r hr=>⟨hb _ hr.1,hr.2⟩
theorem spec_l1Below_t {c:G.Cur} {n:Int} (h:CurOk c):Ok (spec_l1Below.raw c n) fun r=>0≤r.1∧(0<n→r.1<n)∧(n≤0→r.1=0)∧CurOk r.2:=below_tot h
theorem spec_l1Bytes_t {c:G.Cur} {n:Int} (h:CurOk c) (hn:n≤1048576):Ok (spec_l1Bytes.raw c n) fun r=>r.1.length=n.toNat∧CurOk r.2:=bytes_tot h hn
theorem spec_l1Once_t {c:G.Cur} {n:Int} (h:CurOk c):Ok (spec_l1Once.raw c n) fun r=>CurOk r.2:=once_tot h
theorem spec_l1New_t {code:List UInt8} (h:code.length≤1048576):Ok (spec_l1New.raw code) CurOk:=new_tot h
theorem N:(∀ x:G.Client,wt x=wt x.Psk+wt x.Cn+wt x.Fin+wt x.C)∧(∀ x:G.Chan,wt x=x.Sn.length+wt x.Cur+wt x.Old+x.Next.length)∧(∀ x:G.Ep,wt x=x.Key.length+wt x.Win)∧(∀ x:G.Win,wt x=x.Bits.length)∧
    (∀ x:G.Frame,wt x=x.Cn.length+x.Sn.length+x.Cookie.length+x.Proof.length+x.Body.length+x.Tag.length)∧(∀ x:G.Note,wt x=x.Cn.length+x.Sn.length+x.Body.length+x.Key.length)∧
    (∀ x:G.Sess,wt x=x.Cn.length+x.Sn.length+wt x.C+wt x.P)∧(∀ x:G.Paths,wt x=wt x.Cands)∧(∀ x:G.Cand,wt x=x.Draw.length)∧(∀ x:G.Tab,wt x=wt x.L)∧
    (∀ x:G.Server,wt x=wt x.Psks+wt x.J+wt x.D+wt x.T+wt x.Cr)∧(∀ x:G.Jar,wt x=x.Secret.length)∧(∀ x:G.Dice,wt x=x.Seed.length)∧(∀ x:G.Credit,wt x=0)∧(∀ x:G.Wire,wt x=x.B.length)∧
    (∀ x:G.World,wt x=wt x.Clients+wt x.S+wt x.D+wt x.Seen+wt x.Known+wt x.Notes)∧(∀ x:G.Op,wt x=x.B.length)∧(∀ x:G.Event,wt x=x.B.length+wt x.Ops)∧(∀ x:G.Out,wt x=wt x.F)∧
    (∀ p:Prop,(True∧p)=p)∧(∀ p:Prop,(p∧True)=p)∧(∀ x:UInt8,wt x=0)∧(∀ x:Int,wt x=0)∧(∀ x:Nat,wt x=0)∧(∀ x:List UInt8,wt x=x.length)∧(∀ x:List Int,wt x=x.length)∧(∀ (α:Type) [Wt α] (l m:List α),wt (l++m)=wt l+wt m)∧(∀ (α:Type) [Wt α] (x:α) (l:List α),wt (x :: l)=wt x+wt l+1)∧(∀ (α:Type) [Wt α],wt ([]:List α)=0)∧
    (∀ (α:Type) (l m:List α),(l++m).length=l.length+m.length)∧(∀ (α:Type) (x:α) (l:List α),(x :: l).length=l.length+1)∧(∀ (α:Type),([]:List α).length=0)∧(∀ (α:Type) (l:List α) (i:Nat) (x:α),(l.set i x).length=l.length)∧
    (∀ (α:Type) (l:List α) (i:Nat),(l.take i).length=min i l.length)∧(∀ (α:Type) (l:List α) (i:Nat),(l.drop i).length=l.length - i)∧
    (∀ c,CF c↔(wt c≤350∧1≤c.Id∧c.Id≤9∧1≤c.Psk.length∧c.Psk.length≤32∧0≤c.At.Host∧c.At.Host≤4294967295∧0≤c.At.Port∧c.At.Port≤65535))∧
    (∀ s,SF s↔(wt s≤3300∧s.T.L.length≤12∧s.Psks.length≤9∧s.J.Secret.length=32))∧(∀ w,TW w↔(w.Clients.length=2∧idAt w.Clients 0=1∧idAt w.Clients 1=2))∧(∀ c,CurOk c↔(0≤c.i∧c.i≤c.b.length∧c.b.length≤1048576)):=by
  refine ⟨fun x=>?_,fun x=>?_,fun x=>?_,fun x=>?_,fun x=>?_,fun x=>?_,fun x=>?_,fun x=>?_,fun x=>?_,fun x=>?_,fun x=>?_,fun x=>?_,fun x=>?_,fun x=>?_,fun x=>?_,fun x=>?_,fun x=>?_,fun x=>?_,fun x=>?_,
    true_and,and_true,fun _=>rfl,fun _=>rfl,fun _=>rfl,wt_bytes,wt_ints,fun _ _=>wt_append,fun _ _=>wt_cons,fun _ _=>wt_nil,fun _ _ _=>List.length_append,fun _ _ _=>List.length_cons,fun _=>List.length_nil,fun _ _ _ _=>List.length_set,fun _ _ _=>List.length_take,fun _ _ _=>List.length_drop,
    fun _=>Iff.rfl,fun _=>Iff.rfl,fun _=>Iff.rfl,fun _=>Iff.rfl⟩
  · rw [wt_Client,wt_Addr,wt_Timer,wt_Timer];omega
  · rw [wt_Chan,wt_bytes,wt_bytes]
  · rw [wt_Ep,wt_bytes]
  · rw [wt_Win,wt_ints]
  · rw [wt_Frame,wt_bytes,wt_bytes,wt_bytes,wt_bytes,wt_bytes,wt_bytes]
  · rw [wt_Note,wt_bytes,wt_bytes,wt_bytes,wt_bytes,wt_Addr];omega
  · rw [wt_Sess,wt_bytes,wt_bytes]
  · rw [wt_Paths,wt_Addr];omega
  · rw [wt_Cand,wt_Addr,wt_bytes];omega
  · rw [wt_Tab]
  · rw [wt_Server]
  · rw [wt_Jar,wt_bytes]
  · rw [wt_Dice,wt_bytes]
  · rfl
  · rw [wt_Wire,wt_Addr,wt_Addr,wt_bytes];omega
  · rw [wt_World]
  · rw [wt_Op,wt_bytes]
  · rw [wt_Event,wt_bytes]
  · rw [wt_Out,wt_Addr];omega
theorem B:(∀ b:Bool,((!b)=true)=(b=false))∧(∀ b:Bool,((!b)=false)=(b=true))∧(∀ (p:Prop) [Decidable p],(decide p=true)=p)∧(∀ (p:Prop) [Decidable p],(decide p=false)=¬ p)∧
    (∀ (α:Type) [BEq α] [LawfulBEq α] (a b:α),((a==b)=true)=(a=b))∧(∀ (α:Type) [BEq α] [LawfulBEq α] (a b:α),((a==b)=false)=¬ (a=b))∧
    (∀ (α:Type) [BEq α] [LawfulBEq α] (a b:α),((a !=b)=true)=¬ (a=b))∧(∀ (α:Type) [BEq α] [LawfulBEq α] (a b:α),((a !=b)=false)=(a=b))∧
    (∀ x a b:Int,(inR x a b=true)=(a≤x∧x≤b))∧(∀ x a b:Int,(inR x a b=false)=¬ (a≤x∧x≤b))∧(∀ a b:Bool,((a&&b)=true)=(a=true∧b=true))∧(∀ a b:Bool,((a||b)=true)=(a=true∨b=true)):=by
  refine ⟨fun b=>by cases b <;> simp,fun b=>by cases b <;> simp,fun p _=>by simp,fun p _=>by simp,fun _ _ _ a b=>by simp,fun _ _ _ a b=>by simp,fun _ _ _ a b=>by simp,fun _ _ _ a b=>by simp,
    fun x a b=>propext inR_true,fun x a b=>propext inR_false,fun a b=>by simp,fun a b=>by simp⟩
end Go.D

/-
  No plain datum names a row.
-/
import Derived.Test.YtilkenfgjljknaaRel
namespace Go.D

theorem rin_byte (S : Nat → Prop) (a : UInt8) (j : Nat) : RIn S ((enc .byte a).getD j .undef) := by
  match j with
  | 0 => exact .int _ _
  | n + 1 => exact .undef
theorem rin_int (S : Nat → Prop) (a : Int) (j : Nat) : RIn S ((enc .int a).getD j .undef) := by
  match j with
  | 0 => exact .int _ _
  | n + 1 => exact .undef
theorem rin_bool (S : Nat → Prop) (a : Bool) (j : Nat) : RIn S ((enc .bool a).getD j .undef) := by
  match j with
  | 0 => exact .bool _
  | n + 1 => exact .undef
theorem rin_str (S : Nat → Prop) (a : List UInt8) (j : Nat) : RIn S ((enc .str a).getD j .undef) := by
  match j with
  | 0 => exact .str _
  | n + 1 => exact .undef
theorem rin_bs (S : Nat → Prop) (a : List UInt8) (j : Nat) : RIn S ((enc .bs a).getD j .undef) := by
  match j with
  | 0 => exact .sl _ _ fun i h j _ => rin_byte S _ j
  | n + 1 => exact .undef
theorem rin_Addr (S : Nat → Prop) (a : G.Addr) (j : Nat) : RIn S ((enc .Addr a).getD j .undef) := by
  match j with
  | 0 => exact .int _ _
  | 1 => exact .int _ _
  | n + 2 => exact .undef
theorem rin_Op (S : Nat → Prop) (a : G.Op) (j : Nat) : RIn S ((enc .Op a).getD j .undef) := by
  match j with
  | 0 => exact .int _ _
  | 1 => exact .int _ _
  | 2 => exact .int _ _
  | 3 => exact .sl _ _ fun i h j _ => rin_byte S _ j
  | n + 4 => exact .undef
theorem rin_Event (S : Nat → Prop) (a : G.Event) (j : Nat) : RIn S ((enc .Event a).getD j .undef) := by
  match j with
  | 0 => exact .int _ _
  | 1 => exact .int _ _
  | 2 => exact .int _ _
  | 3 => exact .int _ _
  | 4 => exact .sl _ _ fun i h j _ => rin_byte S _ j
  | 5 => exact .sl _ _ fun i h j _ => rin_Op S _ j
  | n + 6 => exact .undef
theorem rin_Jar (S : Nat → Prop) (a : G.Jar) (j : Nat) : RIn S ((enc .Jar a).getD j .undef) := by
  match j with
  | 0 => exact .sl _ _ fun i h j _ => rin_byte S _ j
  | n + 1 => exact .undef
theorem rin_Dice (S : Nat → Prop) (a : G.Dice) (j : Nat) : RIn S ((enc .Dice a).getD j .undef) := by
  match j with
  | 0 => exact .sl _ _ fun i h j _ => rin_byte S _ j
  | 1 => exact .int _ _
  | n + 2 => exact .undef
theorem rin_Win (S : Nat → Prop) (a : G.Win) (j : Nat) : RIn S ((enc .Win a).getD j .undef) := by
  match j with
  | 0 => exact .int _ _
  | 1 => exact .sl _ _ fun i h j _ => rin_int S _ j
  | n + 2 => exact .undef
theorem rin_Ep (S : Nat → Prop) (a : G.Ep) (j : Nat) : RIn S ((enc .Ep a).getD j .undef) := by
  match j with
  | 0 => exact .int _ _
  | 1 => exact .sl _ _ fun i h j _ => rin_byte S _ j
  | 2 => exact .int _ _
  | 3 => exact .int _ _
  | 4 => exact .sl _ _ fun i h j _ => rin_int S _ j
  | n + 5 => exact .undef
theorem rin_Chan (S : Nat → Prop) (a : G.Chan) (j : Nat) : RIn S ((enc .Chan a).getD j .undef) := by
  match j with
  | 0 => exact .int _ _
  | 1 => exact .sl _ _ fun i h j _ => rin_byte S _ j
  | 2 => exact .int _ _
  | 3 => exact .sl _ _ fun i h j _ => rin_byte S _ j
  | 4 => exact .int _ _
  | 5 => exact .int _ _
  | 6 => exact .sl _ _ fun i h j _ => rin_int S _ j
  | 7 => exact .int _ _
  | 8 => exact .sl _ _ fun i h j _ => rin_byte S _ j
  | 9 => exact .int _ _
  | 10 => exact .int _ _
  | 11 => exact .sl _ _ fun i h j _ => rin_int S _ j
  | 12 => exact .bool _
  | 13 => exact .int _ _
  | 14 => exact .sl _ _ fun i h j _ => rin_byte S _ j
  | n + 15 => exact .undef
theorem rin_Cand (S : Nat → Prop) (a : G.Cand) (j : Nat) : RIn S ((enc .Cand a).getD j .undef) := by
  match j with
  | 0 => exact .int _ _
  | 1 => exact .int _ _
  | 2 => exact .sl _ _ fun i h j _ => rin_byte S _ j
  | 3 => exact .int _ _
  | n + 4 => exact .undef
theorem rin_Paths (S : Nat → Prop) (a : G.Paths) (j : Nat) : RIn S ((enc .Paths a).getD j .undef) := by
  match j with
  | 0 => exact .int _ _
  | 1 => exact .int _ _
  | 2 => exact .sl _ _ fun i h j _ => rin_Cand S _ j
  | n + 3 => exact .undef
theorem rin_Sess (S : Nat → Prop) (a : G.Sess) (j : Nat) : RIn S ((enc .Sess a).getD j .undef) := by
  match j with
  | 0 => exact .int _ _
  | 1 => exact .sl _ _ fun i h j _ => rin_byte S _ j
  | 2 => exact .sl _ _ fun i h j _ => rin_byte S _ j
  | 3 => exact .int _ _
  | 4 => exact .sl _ _ fun i h j _ => rin_byte S _ j
  | 5 => exact .int _ _
  | 6 => exact .sl _ _ fun i h j _ => rin_byte S _ j
  | 7 => exact .int _ _
  | 8 => exact .int _ _
  | 9 => exact .sl _ _ fun i h j _ => rin_int S _ j
  | 10 => exact .int _ _
  | 11 => exact .sl _ _ fun i h j _ => rin_byte S _ j
  | 12 => exact .int _ _
  | 13 => exact .int _ _
  | 14 => exact .sl _ _ fun i h j _ => rin_int S _ j
  | 15 => exact .bool _
  | 16 => exact .int _ _
  | 17 => exact .sl _ _ fun i h j _ => rin_byte S _ j
  | 18 => exact .int _ _
  | 19 => exact .int _ _
  | 20 => exact .sl _ _ fun i h j _ => rin_Cand S _ j
  | 21 => exact .int _ _
  | 22 => exact .int _ _
  | 23 => exact .bool _
  | n + 24 => exact .undef
theorem rin_Tab (S : Nat → Prop) (a : G.Tab) (j : Nat) : RIn S ((enc .Tab a).getD j .undef) := by
  match j with
  | 0 => exact .int _ _
  | 1 => exact .sl _ _ fun i h j _ => rin_Sess S _ j
  | n + 2 => exact .undef
theorem rin_Credit (S : Nat → Prop) (a : G.Credit) (j : Nat) : RIn S ((enc .Credit a).getD j .undef) := by
  match j with
  | 0 => exact .int _ _
  | 1 => exact .int _ _
  | 2 => exact .int _ _
  | 3 => exact .int _ _
  | n + 4 => exact .undef
theorem rin_Server (S : Nat → Prop) (a : G.Server) (j : Nat) : RIn S ((enc .Server a).getD j .undef) := by
  match j with
  | 0 => exact .sl _ _ fun i h j _ => rin_bs S _ j
  | 1 => exact .sl _ _ fun i h j _ => rin_byte S _ j
  | 2 => exact .sl _ _ fun i h j _ => rin_byte S _ j
  | 3 => exact .int _ _
  | 4 => exact .int _ _
  | 5 => exact .sl _ _ fun i h j _ => rin_Sess S _ j
  | 6 => exact .sl _ _ fun i h j _ => rin_Credit S _ j
  | n + 7 => exact .undef
theorem rin_Frame (S : Nat → Prop) (a : G.Frame) (j : Nat) : RIn S ((enc .Frame a).getD j .undef) := by
  match j with
  | 0 => exact .int _ _
  | 1 => exact .int _ _
  | 2 => exact .sl _ _ fun i h j _ => rin_byte S _ j
  | 3 => exact .sl _ _ fun i h j _ => rin_byte S _ j
  | 4 => exact .int _ _
  | 5 => exact .sl _ _ fun i h j _ => rin_byte S _ j
  | 6 => exact .sl _ _ fun i h j _ => rin_byte S _ j
  | 7 => exact .int _ _
  | 8 => exact .int _ _
  | 9 => exact .sl _ _ fun i h j _ => rin_byte S _ j
  | 10 => exact .sl _ _ fun i h j _ => rin_byte S _ j
  | n + 11 => exact .undef
theorem rin_Timer (S : Nat → Prop) (a : G.Timer) (j : Nat) : RIn S ((enc .Timer a).getD j .undef) := by
  match j with
  | 0 => exact .bool _
  | 1 => exact .int _ _
  | 2 => exact .int _ _
  | 3 => exact .int _ _
  | n + 4 => exact .undef
theorem rin_Client (S : Nat → Prop) (a : G.Client) (j : Nat) : RIn S ((enc .Client a).getD j .undef) := by
  match j with
  | 0 => exact .int _ _
  | 1 => exact .sl _ _ fun i h j _ => rin_byte S _ j
  | 2 => exact .int _ _
  | 3 => exact .int _ _
  | 4 => exact .int _ _
  | 5 => exact .sl _ _ fun i h j _ => rin_byte S _ j
  | 6 => exact .int _ _
  | 7 => exact .int _ _
  | 8 => exact .sl _ _ fun i h j _ => rin_byte S _ j
  | 9 => exact .sl _ _ fun i h j _ => rin_byte S _ j
  | 10 => exact .int _ _
  | 11 => exact .sl _ _ fun i h j _ => rin_byte S _ j
  | 12 => exact .sl _ _ fun i h j _ => rin_byte S _ j
  | 13 => exact .int _ _
  | 14 => exact .int _ _
  | 15 => exact .sl _ _ fun i h j _ => rin_byte S _ j
  | 16 => exact .sl _ _ fun i h j _ => rin_byte S _ j
  | 17 => exact .int _ _
  | 18 => exact .sl _ _ fun i h j _ => rin_byte S _ j
  | 19 => exact .int _ _
  | 20 => exact .sl _ _ fun i h j _ => rin_byte S _ j
  | 21 => exact .int _ _
  | 22 => exact .int _ _
  | 23 => exact .sl _ _ fun i h j _ => rin_int S _ j
  | 24 => exact .int _ _
  | 25 => exact .sl _ _ fun i h j _ => rin_byte S _ j
  | 26 => exact .int _ _
  | 27 => exact .int _ _
  | 28 => exact .sl _ _ fun i h j _ => rin_int S _ j
  | 29 => exact .bool _
  | 30 => exact .int _ _
  | 31 => exact .sl _ _ fun i h j _ => rin_byte S _ j
  | 32 => exact .bool _
  | 33 => exact .int _ _
  | 34 => exact .int _ _
  | 35 => exact .int _ _
  | 36 => exact .bool _
  | 37 => exact .int _ _
  | 38 => exact .int _ _
  | 39 => exact .int _ _
  | 40 => exact .int _ _
  | n + 41 => exact .undef
theorem rin_Wire (S : Nat → Prop) (a : G.Wire) (j : Nat) : RIn S ((enc .Wire a).getD j .undef) := by
  match j with
  | 0 => exact .int _ _
  | 1 => exact .int _ _
  | 2 => exact .int _ _
  | 3 => exact .int _ _
  | 4 => exact .sl _ _ fun i h j _ => rin_byte S _ j
  | n + 5 => exact .undef
theorem rin_Note (S : Nat → Prop) (a : G.Note) (j : Nat) : RIn S ((enc .Note a).getD j .undef) := by
  match j with
  | 0 => exact .int _ _
  | 1 => exact .int _ _
  | 2 => exact .int _ _
  | 3 => exact .sl _ _ fun i h j _ => rin_byte S _ j
  | 4 => exact .sl _ _ fun i h j _ => rin_byte S _ j
  | 5 => exact .int _ _
  | 6 => exact .int _ _
  | 7 => exact .sl _ _ fun i h j _ => rin_byte S _ j
  | 8 => exact .sl _ _ fun i h j _ => rin_byte S _ j
  | 9 => exact .int _ _
  | 10 => exact .int _ _
  | 11 => exact .int _ _
  | n + 12 => exact .undef
theorem rin_World (S : Nat → Prop) (a : G.World) (j : Nat) : RIn S ((enc .World a).getD j .undef) := by
  match j with
  | 0 => exact .int _ _
  | 1 => exact .sl _ _ fun i h j _ => rin_Client S _ j
  | 2 => exact .sl _ _ fun i h j _ => rin_bs S _ j
  | 3 => exact .sl _ _ fun i h j _ => rin_byte S _ j
  | 4 => exact .sl _ _ fun i h j _ => rin_byte S _ j
  | 5 => exact .int _ _
  | 6 => exact .int _ _
  | 7 => exact .sl _ _ fun i h j _ => rin_Sess S _ j
  | 8 => exact .sl _ _ fun i h j _ => rin_Credit S _ j
  | 9 => exact .sl _ _ fun i h j _ => rin_byte S _ j
  | 10 => exact .int _ _
  | 11 => exact .sl _ _ fun i h j _ => rin_Wire S _ j
  | 12 => exact .sl _ _ fun i h j _ => rin_bs S _ j
  | 13 => exact .sl _ _ fun i h j _ => rin_Note S _ j
  | n + 14 => exact .undef
theorem rin_Cur (S : Nat → Prop) (a : G.Cur) (j : Nat) : RIn S ((enc .Cur a).getD j .undef) := by
  match j with
  | 0 => exact .sl _ _ fun i h j _ => rin_byte S _ j
  | 1 => exact .int _ _
  | 2 => exact .int _ _
  | n + 3 => exact .undef
theorem rin_Out (S : Nat → Prop) (a : G.Out) (j : Nat) : RIn S ((enc .Out a).getD j .undef) := by
  match j with
  | 0 => exact .int _ _
  | 1 => exact .int _ _
  | 2 => exact .int _ _
  | 3 => exact .int _ _
  | 4 => exact .sl _ _ fun i h j _ => rin_byte S _ j
  | 5 => exact .sl _ _ fun i h j _ => rin_byte S _ j
  | 6 => exact .int _ _
  | 7 => exact .sl _ _ fun i h j _ => rin_byte S _ j
  | 8 => exact .sl _ _ fun i h j _ => rin_byte S _ j
  | 9 => exact .int _ _
  | 10 => exact .int _ _
  | 11 => exact .sl _ _ fun i h j _ => rin_byte S _ j
  | 12 => exact .sl _ _ fun i h j _ => rin_byte S _ j
  | n + 13 => exact .undef
theorem rin_Form (S : Nat → Prop) (a : G.Form) (j : Nat) : RIn S ((enc .Form a).getD j .undef) := by
  match j with
  | 0 => exact .int _ _
  | 1 => exact .str _
  | n + 2 => exact .undef
theorem rin_Hash (S : Nat → Prop) (a : G.Hash) (j : Nat) : RIn S ((enc .Hash a).getD j .undef) := by
  match j with
  | 0 => exact .sl _ _ fun i h j _ => rin_int S _ j
  | 1 => exact .sl _ _ fun i h j _ => rin_byte S _ j
  | 2 => exact .int _ _
  | n + 3 => exact .undef
theorem rin_enc (S : Nat → Prop) (t : TN) (a : El t) (j : Nat) : RIn S ((enc t a).getD j .undef) := by
  cases t with
  | byte => exact rin_byte S a j
  | int => exact rin_int S a j
  | bool => exact rin_bool S a j
  | str => exact rin_str S a j
  | bs => exact rin_bs S a j
  | Addr => exact rin_Addr S a j
  | Op => exact rin_Op S a j
  | Event => exact rin_Event S a j
  | Jar => exact rin_Jar S a j
  | Dice => exact rin_Dice S a j
  | Win => exact rin_Win S a j
  | Ep => exact rin_Ep S a j
  | Chan => exact rin_Chan S a j
  | Cand => exact rin_Cand S a j
  | Paths => exact rin_Paths S a j
  | Sess => exact rin_Sess S a j
  | Tab => exact rin_Tab S a j
  | Credit => exact rin_Credit S a j
  | Server => exact rin_Server S a j
  | Frame => exact rin_Frame S a j
  | Timer => exact rin_Timer S a j
  | Client => exact rin_Client S a j
  | Wire => exact rin_Wire S a j
  | Note => exact rin_Note S a j
  | World => exact rin_World S a j
  | Cur => exact rin_Cur S a j
  | Out => exact rin_Out S a j
  | Form => exact rin_Form S a j
  | Hash => exact rin_Hash S a j
end Go.D

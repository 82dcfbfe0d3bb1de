/-
  What the laws' own functions compute.
-/
import Derived.Test.YtilkenfgjljknaaRaws
namespace Go.D

theorem laws_eqAddr_raw (a b : G.Addr) : laws_eqAddr.raw a b = some (eqq a b) := by
  simp only [laws_eqAddr.raw]
  refine eq_int (fun y : G.Addr => y.Host) fun h0 => ?_
  refine eq_int (fun y : G.Addr => y.Port) fun h1 => ?_
  exact eq_end (by cases a; cases b; simp_all)
theorem laws_eqAddr.ok {x : TyTup [.v .Addr, .v .Addr]} (_ : bdTup [.v .Addr, .v .Addr] x) : laws_eqAddr.raw x.1 x.2 = some (eqq x.1 x.2) := laws_eqAddr_raw x.1 x.2
theorem laws_toAddr.ok {x : TyTup [.v .Addr]} (_ : bdTup [.v .Addr] x) {r : G.Addr} : cpy (α := G.Addr) x = some r → laws_toAddr.raw x = some r := pt_ok fun _ => rfl
theorem laws_szEvent_raw (a : G.Event) (left : Int) (h : 0 ≤ left) : laws_szEvent.raw a left = some (szT a left) := by
  simp only [laws_szEvent.raw]
  refine sz_step (by omega) (fun hn => szT_bad (by rw [wt_Event]; omega)) fun h0 => ?_
  refine sz_step (by omega) (fun hn => szT_bad (by rw [wt_Event]; omega)) fun h1 => ?_
  refine congrArg some ?_
  have hp := szT_pos (left := left) (a := a) (by rw [wt_Event]; omega)
  rw [wt_Event] at hp; omega
theorem laws_szEvent.ok {x : TyTup [.v .Event, .v .int]} (hb : bdTup [.v .Event, .v .int] x) {r : Int} : szO (α := G.Event) x.1 x.2 = some r → laws_szEvent.raw x.1 x.2 = some r := pt_ok fun h => laws_szEvent_raw x.1 x.2 h
theorem laws_toEvent_raw (a : G.Event) (h : wt a ≤ LIM) : laws_toEvent.raw a = some a := by
  rw [wt_Event] at h
  simp only [laws_toEvent.raw, cpy]
  rw [pt_bind (by omega), pt_bind (by omega)]
theorem laws_toEvent.ok {x : TyTup [.v .Event]} (_ : bdTup [.v .Event] x) {r : G.Event} : cpy (α := G.Event) x = some r → laws_toEvent.raw x = some r := pt_ok fun h => laws_toEvent_raw x h
theorem laws_eqEvent_raw (a b : G.Event) : laws_eqEvent.raw a b = some (eqq a b) := by
  simp only [laws_eqEvent.raw]
  refine eq_int (fun y : G.Event => y.Kind) fun h0 => ?_
  refine eq_int (fun y : G.Event => y.I) fun h1 => ?_
  refine eq_int (fun y : G.Event => y.J) fun h2 => ?_
  refine eq_int (fun y : G.Event => y.N) fun h3 => ?_
  refine eq_any (fun y : G.Event => y.B) fun h4 => ?_
  refine eq_any (fun y : G.Event => y.Ops) fun h5 => ?_
  exact eq_end (by cases a; cases b; simp_all)
theorem laws_eqEvent.ok {x : TyTup [.v .Event, .v .Event]} (_ : bdTup [.v .Event, .v .Event] x) : laws_eqEvent.raw x.1 x.2 = some (eqq x.1 x.2) := laws_eqEvent_raw x.1 x.2
theorem laws_szNoteS.ok {x : TyTup [.sl .Note, .v .int]} (hb : bdTup [.sl .Note, .v .int] x) {r : Int} : szO (α := List G.Note) x.1 x.2 = some r → laws_szNoteS.raw x.1 x.2 = some r := pt_ok fun h => sz_list (α := G.Note) x.1 h (bdx_top hb.2) hb.1.1
theorem laws_toNoteS.ok {x : TyTup [.sl .Note]} (hb : bdTup [.sl .Note] x) {r : List G.Note} : cpy (α := List G.Note) x = some r → laws_toNoteS.raw x = some r := pt_ok fun h => cpy_list (α := G.Note) x _ hb.1 h
theorem laws_toByteS.ok {x : TyTup [.sl .byte]} (hb : bdTup [.sl .byte] x) {r : List UInt8} : cpy (α := List UInt8) x = some r → laws_toByteS.raw x = some r := pt_ok fun h => cpy_plain (α := UInt8) x _ hb.1 (by have h : wt (show List UInt8 from x) ≤ LIM := h; rw [wt_bytes] at h; exact h) _ byte_back
theorem laws_eqNoteS.ok {x : TyTup [.sl .Note, .sl .Note]} (hb : bdTup [.sl .Note, .sl .Note] x) : laws_eqNoteS.raw x.1 x.2 = some (eqq x.1 x.2) := cmp_list (α := G.Note) x.1 x.2 hb.1.1 _ (fun _ _ => rfl)
theorem laws_eqByteS.ok {x : TyTup [.sl .byte, .sl .byte]} (hb : bdTup [.sl .byte, .sl .byte] x) : laws_eqByteS.raw x.1 x.2 = some (eqq x.1 x.2) := cmp_list (α := UInt8) x.1 x.2 hb.1.1 _ ne_byte
theorem laws_szByteS.ok {x : TyTup [.sl .byte, .v .int]} (hb : bdTup [.sl .byte, .v .int] x) {r : Int} : szO (α := List UInt8) x.1 x.2 = some r → laws_szByteS.raw x.1 x.2 = some r := pt_ok fun h => sz_plain (α := UInt8) (fun _ => rfl) x.1 h (bdx_top hb.2) hb.1.1
theorem laws_szOpS.ok {x : TyTup [.sl .Op, .v .int]} (hb : bdTup [.sl .Op, .v .int] x) {r : Int} : szO (α := List G.Op) x.1 x.2 = some r → laws_szOpS.raw x.1 x.2 = some r := pt_ok fun h => sz_list (α := G.Op) x.1 h (bdx_top hb.2) hb.1.1
theorem laws_toOpS.ok {x : TyTup [.sl .Op]} (hb : bdTup [.sl .Op] x) {r : List G.Op} : cpy (α := List G.Op) x = some r → laws_toOpS.raw x = some r := pt_ok fun h => cpy_list (α := G.Op) x _ hb.1 h
theorem laws_eqOpS.ok {x : TyTup [.sl .Op, .sl .Op]} (hb : bdTup [.sl .Op, .sl .Op] x) : laws_eqOpS.raw x.1 x.2 = some (eqq x.1 x.2) := cmp_list (α := G.Op) x.1 x.2 hb.1.1 _ (fun _ _ => rfl)
theorem laws_szNote_raw (a : G.Note) (left : Int) (h : 0 ≤ left) : laws_szNote.raw a left = some (szT a left) := by
  simp only [laws_szNote.raw]
  refine sz_step (by omega) (fun hn => szT_bad (by rw [wt_Note, wt_Addr]; omega)) fun h0 => ?_
  refine sz_step (by omega) (fun hn => szT_bad (by rw [wt_Note, wt_Addr]; omega)) fun h1 => ?_
  refine sz_step (by omega) (fun hn => szT_bad (by rw [wt_Note, wt_Addr]; omega)) fun h2 => ?_
  refine sz_step (by omega) (fun hn => szT_bad (by rw [wt_Note, wt_Addr]; omega)) fun h3 => ?_
  refine congrArg some ?_
  have hp := szT_pos (left := left) (a := a) (by rw [wt_Note, wt_Addr]; omega)
  rw [wt_Note, wt_Addr] at hp; omega
theorem laws_szNote.ok {x : TyTup [.v .Note, .v .int]} (hb : bdTup [.v .Note, .v .int] x) {r : Int} : szO (α := G.Note) x.1 x.2 = some r → laws_szNote.raw x.1 x.2 = some r := pt_ok fun h => laws_szNote_raw x.1 x.2 h
theorem laws_toNote_raw (a : G.Note) (h : wt a ≤ LIM) : laws_toNote.raw a = some a := by
  rw [wt_Note] at h
  simp only [laws_toNote.raw, cpy]
  rw [pt_bind (by omega), pt_bind (by omega), pt_bind (by omega), pt_bind (by omega), pt_bind (by omega)]
theorem laws_toNote.ok {x : TyTup [.v .Note]} (_ : bdTup [.v .Note] x) {r : G.Note} : cpy (α := G.Note) x = some r → laws_toNote.raw x = some r := pt_ok fun h => laws_toNote_raw x h
theorem laws_eqNote_raw (a b : G.Note) : laws_eqNote.raw a b = some (eqq a b) := by
  simp only [laws_eqNote.raw]
  refine eq_int (fun y : G.Note => y.Kind) fun h0 => ?_
  refine eq_int (fun y : G.Note => y.Id) fun h1 => ?_
  refine eq_int (fun y : G.Note => y.Role) fun h2 => ?_
  refine eq_any (fun y : G.Note => y.Cn) fun h3 => ?_
  refine eq_any (fun y : G.Note => y.Sn) fun h4 => ?_
  refine eq_int (fun y : G.Note => y.Epoch) fun h5 => ?_
  refine eq_int (fun y : G.Note => y.Seq) fun h6 => ?_
  refine eq_any (fun y : G.Note => y.Body) fun h7 => ?_
  refine eq_any (fun y : G.Note => y.Key) fun h8 => ?_
  refine eq_any (fun y : G.Note => y.A) fun h9 => ?_
  refine eq_int (fun y : G.Note => y.Now) fun h10 => ?_
  exact eq_end (by cases a; cases b; simp_all)
theorem laws_eqNote.ok {x : TyTup [.v .Note, .v .Note]} (_ : bdTup [.v .Note, .v .Note] x) : laws_eqNote.raw x.1 x.2 = some (eqq x.1 x.2) := laws_eqNote_raw x.1 x.2
theorem laws_szOp_raw (a : G.Op) (left : Int) (h : 0 ≤ left) : laws_szOp.raw a left = some (szT a left) := by
  simp only [laws_szOp.raw]
  refine sz_step (by omega) (fun hn => szT_bad (by rw [wt_Op]; omega)) fun h0 => ?_
  refine congrArg some ?_
  have hp := szT_pos (left := left) (a := a) (by rw [wt_Op]; omega)
  rw [wt_Op] at hp; omega
theorem laws_szOp.ok {x : TyTup [.v .Op, .v .int]} (hb : bdTup [.v .Op, .v .int] x) {r : Int} : szO (α := G.Op) x.1 x.2 = some r → laws_szOp.raw x.1 x.2 = some r := pt_ok fun h => laws_szOp_raw x.1 x.2 h
theorem laws_toOp_raw (a : G.Op) (h : wt a ≤ LIM) : laws_toOp.raw a = some a := by
  rw [wt_Op] at h
  simp only [laws_toOp.raw, cpy]
  rw [pt_bind (by omega)]
theorem laws_toOp.ok {x : TyTup [.v .Op]} (_ : bdTup [.v .Op] x) {r : G.Op} : cpy (α := G.Op) x = some r → laws_toOp.raw x = some r := pt_ok fun h => laws_toOp_raw x h
theorem laws_eqOp_raw (a b : G.Op) : laws_eqOp.raw a b = some (eqq a b) := by
  simp only [laws_eqOp.raw]
  refine eq_int (fun y : G.Op => y.Kind) fun h0 => ?_
  refine eq_int (fun y : G.Op => y.I) fun h1 => ?_
  refine eq_int (fun y : G.Op => y.J) fun h2 => ?_
  refine eq_any (fun y : G.Op => y.B) fun h3 => ?_
  exact eq_end (by cases a; cases b; simp_all)
theorem laws_eqOp.ok {x : TyTup [.v .Op, .v .Op]} (_ : bdTup [.v .Op, .v .Op] x) : laws_eqOp.raw x.1 x.2 = some (eqq x.1 x.2) := laws_eqOp_raw x.1 x.2

end Go.D

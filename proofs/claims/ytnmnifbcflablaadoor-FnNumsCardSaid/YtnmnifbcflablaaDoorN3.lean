/-
  Sizes of the program's data.
-/
import Derived.Test.YtnmnifbcflablaaDoorN2
namespace Go.D

instance : Wt G.Credit := ⟨fun x => wt x.A⟩
instance : Wt G.Frame := ⟨fun x => wt x.Cn + wt x.Sn + wt x.Cookie + wt x.Proof + wt x.Body + wt x.Tag⟩
instance : Wt G.Timer := ⟨fun _ => 0⟩
instance : Wt G.Client := ⟨fun x => wt x.Psk + wt x.At + wt x.Cn + wt x.Fin + wt x.C + wt x.T + wt x.R⟩
instance : Wt G.Jar := ⟨fun x => wt x.Secret⟩
instance : Wt G.Dice := ⟨fun x => wt x.Seed⟩
instance : Wt G.Cand := ⟨fun x => wt x.A + wt x.Draw⟩
instance : Wt G.Paths := ⟨fun x => wt x.At + wt x.Cands⟩
instance : Wt G.Sess := ⟨fun x => wt x.Cn + wt x.Sn + wt x.C + wt x.P⟩
instance : Wt G.Tab := ⟨fun x => wt x.L⟩
instance : Wt G.Server := ⟨fun x => wt x.Psks + wt x.J + wt x.D + wt x.T + wt x.Cr⟩
instance : Wt G.Wire := ⟨fun x => wt x.From + wt x.To + wt x.B⟩
instance : Wt G.World := ⟨fun x => wt x.Clients + wt x.S + wt x.D + wt x.Seen + wt x.Known + wt x.Notes⟩
end Go.D


/-
  Sessions, tables, servers, clients, worlds: what their predicates say.
-/
namespace Go.D

end Go.D

/-
  What the functions compute, as the plain semantics says it.
-/
namespace Go.D

end Go.D

/-
  What the laws' own functions compute.
-/
namespace Go.D

end Go.D

/-
  Sessions, tables, servers, clients, worlds: each function computes what is said of it.
-/
namespace Go.D

/-! ### Notes -/

/-! ### Sessions -/

end Go.D

/-
  Servers, clients, worlds: each function computes what is said of it.
-/
namespace Go.D

/-! ### Frames -/

end Go.D

/-
  Clients, worlds, links: each function computes what is said of it.
-/
namespace Go.D

/-! ### Worlds -/

/-! ### Links -/

end Go.D

/-
  The laws about worlds.
-/
namespace Go.D

end Go.D

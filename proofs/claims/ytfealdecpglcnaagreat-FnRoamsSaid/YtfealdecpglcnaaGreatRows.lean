/-
  No cell of these rows narrows 'for every input' (looked for: loops, veiled, ifaces, maps, wideKeys, modest, calm, conditions, laid).
  DERIVED. THE GIVEN ROWS OF THIS SEAT. 2 by the template 'for every input the law returns true; each argument reads behind the call as it read before'; 0 by the template 'total and deterministic' (their statements: YtfealdecpglcnaaGreatTotals.lean).
  GIVEN WITH THE SEED: the statements are not yours to turn. If you find one false, say at which input.
  Laid BY PROGRAM, IN A SANDBOX (cutbox-rows.mjs): the forced cells as the released guide's own fill.sh prints them over the translation 5ebf7383c05d1502… (all of the seat's roots in one cut). By AI agents, Wed Nov 11 2026. No macro, syntax, notation, axiom, sorry.
-/
import Derived.Test.YtfealdecpglcnaaGreatChecked
import GoSem.Claim
import GoSem.ClaimJoined
import GoSem.ClaimMapViews
import Derived.JoinedTies
import Derived.KernelRfl
namespace Go.Proofs.YtfealdecpglcnaaGreat
/- THE CELL 'sum', in the pinned program and in every row, IS THE sha256 OF THE DUMP (.gsa) THAT YtfealdecpglcnaaGreatProg.lean LOADS. Nothing in Lean hashes anything: it is a label: what it is worth is what the hold of that sum in a sandbox is worth. -/
noncomputable def Tryz.pinned : Pinned := { name := "ytfealdecpglcnaagreat", sum := "5ebf7383c05d1502cd1742c957a2d21574ffeab5fffca8b834c0168893260767", checked := Tryz.checked }
namespace Rows
def none {H : Type} : Left H := { results := [], args := [] }

/-- 'laws.FnRoams': WHATEVER THE INPUT: true; the input reads as it did. -/
def fnRoamsSpec : ChangeSpec := { name := "fnRoams", fn := fun _ => fun
  | [d] => { results := [.lit (.bool true)], args := [d] }
  | _ => none }
def fnRoamsRow : OpenClaim := { program := "ytfealdecpglcnaagreat", sum := "5ebf7383c05d1502cd1742c957a2d21574ffeab5fffca8b834c0168893260767", func := "loop.example/g00478/laws.FnRoams", spec := "fnRoams", apart := false }
def FnRoamsSaid : Prop := fnRoamsRow.holds Tryz.pinned (OpenSpec.ofChange fnRoamsSpec)

/-- ITS FALSE NEIGHBOUR: 'it returns false'. Refute it at one input. -/
def fnRoamsWrong : ChangeSpec := { name := "fnRoams", fn := fun _ => fun
  | [d] => { results := [.lit (.bool false)], args := [d] }
  | _ => none }
def FnRoamsWrongFalsely : Prop := fnRoamsRow.holds Tryz.pinned (OpenSpec.ofChange fnRoamsWrong)

/-- 'laws.FnPasses': WHATEVER THE INPUT: true; the input reads as it did. -/
def fnPassesSpec : ChangeSpec := { name := "fnPasses", fn := fun _ => fun
  | [d] => { results := [.lit (.bool true)], args := [d] }
  | _ => none }
def fnPassesRow : OpenClaim := { program := "ytfealdecpglcnaagreat", sum := "5ebf7383c05d1502cd1742c957a2d21574ffeab5fffca8b834c0168893260767", func := "loop.example/g00478/laws.FnPasses", spec := "fnPasses", apart := false }
def FnPassesSaid : Prop := fnPassesRow.holds Tryz.pinned (OpenSpec.ofChange fnPassesSpec)

/-- ITS FALSE NEIGHBOUR: 'it returns false'. Refute it at one input. -/
def fnPassesWrong : ChangeSpec := { name := "fnPasses", fn := fun _ => fun
  | [d] => { results := [.lit (.bool false)], args := [d] }
  | _ => none }
def FnPassesWrongFalsely : Prop := fnPassesRow.holds Tryz.pinned (OpenSpec.ofChange fnPassesWrong)

/- THE SECOND FORM. 'bulk': how many values and letters a reading holds, each counted each time it is reached (what is shared counts as often as it is met; a slice's spare places count too). A statement '..UptoSaid' is the law's where the arguments, and the package variables that the reading takes, are together of bulk at most 1048576: NARROWER than '..Said'. Prove '..Said' where nothing that the law and all that it calls make is longer than what came in: it says more and counts as full. Else prove '..UptoSaid'. A law counts once. -/
mutual
def uptoBulk {H : Type} : DataW H → Nat
  | .lit (.string bytes) => bytes.length + 1
  | .lit _ => 1
  | .nil => 1
  | .ptr d => uptoBulk d + 1
  | .slice elems spare => uptoBulkAll elems + uptoBulkAll spare + 1
  | .agg parts => uptoBulkAll parts + 1
  | .iface _ d => uptoBulk d + 1
  | .map entries => uptoBulkEntries entries + 1
  | .held _ => 1
def uptoBulkAll {H : Type} : List (DataW H) → Nat
  | [] => 0
  | d :: r => uptoBulk d + uptoBulkAll r
def uptoBulkEntries {H : Type} : List (Lit × DataW H) → Nat
  | [] => 0
  | x :: r => uptoBulkEntry x + uptoBulkEntries r
def uptoBulkEntry {H : Type} : Lit × DataW H → Nat
  | (.string bytes, d) => bytes.length + uptoBulk d + 1
  | (_, d) => uptoBulk d + 1
 end
def uptoSmall : (H : Type) → List (DataW H) → Bool := fun _ ds => decide (uptoBulkAll ds ≤ 1048576)
def OpenSpec.upto (s : _root_.Go.ChangeSpec) : _root_.Go.OpenSpec := { _root_.Go.OpenSpec.ofChange s with cond := some uptoSmall }

/-- 'laws.FnRoams', WHERE WHAT IT READS IS OF BULK AT MOST 1048576: true; the input reads as it did. -/
def fnRoamsUptoRow : OpenClaim := { program := "ytfealdecpglcnaagreat", sum := "5ebf7383c05d1502cd1742c957a2d21574ffeab5fffca8b834c0168893260767", func := "loop.example/g00478/laws.FnRoams", spec := "fnRoams", apart := false, narrowed := true }
def FnRoamsUptoSaid : Prop := fnRoamsUptoRow.holds Tryz.pinned (OpenSpec.upto fnRoamsSpec)

/-- 'laws.FnPasses', WHERE WHAT IT READS IS OF BULK AT MOST 1048576: true; the input reads as it did. -/
def fnPassesUptoRow : OpenClaim := { program := "ytfealdecpglcnaagreat", sum := "5ebf7383c05d1502cd1742c957a2d21574ffeab5fffca8b834c0168893260767", func := "loop.example/g00478/laws.FnPasses", spec := "fnPasses", apart := false, narrowed := true }
def FnPassesUptoSaid : Prop := fnPassesUptoRow.holds Tryz.pinned (OpenSpec.upto fnPassesSpec)

end Rows
end Go.Proofs.YtfealdecpglcnaaGreat

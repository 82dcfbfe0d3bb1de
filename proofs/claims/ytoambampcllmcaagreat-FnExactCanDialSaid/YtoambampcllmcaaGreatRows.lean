/-
  No cell of these rows narrows 'for every input' (looked for: loops, veiled, ifaces, maps, wideKeys, modest, calm, conditions, laid).
  DERIVED. THE GIVEN ROWS OF THIS SEAT. 8 by the template 'for every input the law returns true; each argument reads behind the call as it read before'; 0 by the template 'total and deterministic' (their statements: YtoambampcllmcaaGreatTotals.lean).
  GIVEN WITH THE SEED: the statements are not yours to turn. If you find one false, say at which input.
  Laid BY PROGRAM, IN A SANDBOX (cutbox-rows.mjs): the forced cells as the released guide's own fill.sh prints them over the translation 1f7450962a3dcd20… (all of the seat's roots in one cut). By AI agents, Wed Nov 11 2026. No macro, syntax, notation, axiom, sorry.
-/
import Derived.Test.YtoambampcllmcaaGreatChecked
import GoSem.Claim
import GoSem.ClaimJoined
import GoSem.ClaimMapViews
import Derived.JoinedTies
import Derived.KernelRfl
namespace Go.Proofs.YtoambampcllmcaaGreat
/- THE CELL 'sum', in the pinned program and in every row, IS THE sha256 OF THE DUMP (.gsa) THAT YtoambampcllmcaaGreatProg.lean LOADS. Nothing in Lean hashes anything: it is a label: what it is worth is what the hold of that sum in a sandbox is worth. -/
noncomputable def Tryz.pinned : Pinned := { name := "ytoambampcllmcaagreat", sum := "1f7450962a3dcd202acc648419de4992748fa472d66c4fc404ed955bf2382fbe", checked := Tryz.checked }
namespace Rows
def none {H : Type} : Left H := { results := [], args := [] }

/-- 'laws.FnExactWorldOk': WHATEVER THE INPUT: true; the input reads as it did. -/
def fnExactWorldOkSpec : ChangeSpec := { name := "fnExactWorldOk", fn := fun _ => fun
  | [d] => { results := [.lit (.bool true)], args := [d] }
  | _ => none }
def fnExactWorldOkRow : OpenClaim := { program := "ytoambampcllmcaagreat", sum := "1f7450962a3dcd202acc648419de4992748fa472d66c4fc404ed955bf2382fbe", func := "loop.example/g00478/laws.FnExactWorldOk", spec := "fnExactWorldOk", apart := false }
def FnExactWorldOkSaid : Prop := fnExactWorldOkRow.holds Tryz.pinned (OpenSpec.ofChange fnExactWorldOkSpec)

/-- ITS FALSE NEIGHBOUR: 'it returns false'. Refute it at one input. -/
def fnExactWorldOkWrong : ChangeSpec := { name := "fnExactWorldOk", fn := fun _ => fun
  | [d] => { results := [.lit (.bool false)], args := [d] }
  | _ => none }
def FnExactWorldOkWrongFalsely : Prop := fnExactWorldOkRow.holds Tryz.pinned (OpenSpec.ofChange fnExactWorldOkWrong)

/-- 'laws.FnExactSleeps': WHATEVER THE INPUT: true; the input reads as it did. -/
def fnExactSleepsSpec : ChangeSpec := { name := "fnExactSleeps", fn := fun _ => fun
  | [d] => { results := [.lit (.bool true)], args := [d] }
  | _ => none }
def fnExactSleepsRow : OpenClaim := { program := "ytoambampcllmcaagreat", sum := "1f7450962a3dcd202acc648419de4992748fa472d66c4fc404ed955bf2382fbe", func := "loop.example/g00478/laws.FnExactSleeps", spec := "fnExactSleeps", apart := false }
def FnExactSleepsSaid : Prop := fnExactSleepsRow.holds Tryz.pinned (OpenSpec.ofChange fnExactSleepsSpec)

/-- ITS FALSE NEIGHBOUR: 'it returns false'. Refute it at one input. -/
def fnExactSleepsWrong : ChangeSpec := { name := "fnExactSleeps", fn := fun _ => fun
  | [d] => { results := [.lit (.bool false)], args := [d] }
  | _ => none }
def FnExactSleepsWrongFalsely : Prop := fnExactSleepsRow.holds Tryz.pinned (OpenSpec.ofChange fnExactSleepsWrong)

/-- 'laws.FnExactSettled': WHATEVER THE INPUT: true; the input reads as it did. -/
def fnExactSettledSpec : ChangeSpec := { name := "fnExactSettled", fn := fun _ => fun
  | [d] => { results := [.lit (.bool true)], args := [d] }
  | _ => none }
def fnExactSettledRow : OpenClaim := { program := "ytoambampcllmcaagreat", sum := "1f7450962a3dcd202acc648419de4992748fa472d66c4fc404ed955bf2382fbe", func := "loop.example/g00478/laws.FnExactSettled", spec := "fnExactSettled", apart := false }
def FnExactSettledSaid : Prop := fnExactSettledRow.holds Tryz.pinned (OpenSpec.ofChange fnExactSettledSpec)

/-- ITS FALSE NEIGHBOUR: 'it returns false'. Refute it at one input. -/
def fnExactSettledWrong : ChangeSpec := { name := "fnExactSettled", fn := fun _ => fun
  | [d] => { results := [.lit (.bool false)], args := [d] }
  | _ => none }
def FnExactSettledWrongFalsely : Prop := fnExactSettledRow.holds Tryz.pinned (OpenSpec.ofChange fnExactSettledWrong)

/-- 'laws.FnExactEpochsFit': WHATEVER THE INPUT: true; the input reads as it did. -/
def fnExactEpochsFitSpec : ChangeSpec := { name := "fnExactEpochsFit", fn := fun _ => fun
  | [d1, d2] => { results := [.lit (.bool true)], args := [d1, d2] }
  | _ => none }
def fnExactEpochsFitRow : OpenClaim := { program := "ytoambampcllmcaagreat", sum := "1f7450962a3dcd202acc648419de4992748fa472d66c4fc404ed955bf2382fbe", func := "loop.example/g00478/laws.FnExactEpochsFit", spec := "fnExactEpochsFit", apart := false }
def FnExactEpochsFitSaid : Prop := fnExactEpochsFitRow.holds Tryz.pinned (OpenSpec.ofChange fnExactEpochsFitSpec)

/-- ITS FALSE NEIGHBOUR: 'it returns false'. Refute it at one input. -/
def fnExactEpochsFitWrong : ChangeSpec := { name := "fnExactEpochsFit", fn := fun _ => fun
  | [d1, d2] => { results := [.lit (.bool false)], args := [d1, d2] }
  | _ => none }
def FnExactEpochsFitWrongFalsely : Prop := fnExactEpochsFitRow.holds Tryz.pinned (OpenSpec.ofChange fnExactEpochsFitWrong)

/-- 'laws.FnExactLinked': WHATEVER THE INPUT: true; the input reads as it did. -/
def fnExactLinkedSpec : ChangeSpec := { name := "fnExactLinked", fn := fun _ => fun
  | [d1, d2] => { results := [.lit (.bool true)], args := [d1, d2] }
  | _ => none }
def fnExactLinkedRow : OpenClaim := { program := "ytoambampcllmcaagreat", sum := "1f7450962a3dcd202acc648419de4992748fa472d66c4fc404ed955bf2382fbe", func := "loop.example/g00478/laws.FnExactLinked", spec := "fnExactLinked", apart := false }
def FnExactLinkedSaid : Prop := fnExactLinkedRow.holds Tryz.pinned (OpenSpec.ofChange fnExactLinkedSpec)

/-- ITS FALSE NEIGHBOUR: 'it returns false'. Refute it at one input. -/
def fnExactLinkedWrong : ChangeSpec := { name := "fnExactLinked", fn := fun _ => fun
  | [d1, d2] => { results := [.lit (.bool false)], args := [d1, d2] }
  | _ => none }
def FnExactLinkedWrongFalsely : Prop := fnExactLinkedRow.holds Tryz.pinned (OpenSpec.ofChange fnExactLinkedWrong)

/-- 'laws.FnExactCanTurn': WHATEVER THE INPUT: true; the input reads as it did. -/
def fnExactCanTurnSpec : ChangeSpec := { name := "fnExactCanTurn", fn := fun _ => fun
  | [d1, d2] => { results := [.lit (.bool true)], args := [d1, d2] }
  | _ => none }
def fnExactCanTurnRow : OpenClaim := { program := "ytoambampcllmcaagreat", sum := "1f7450962a3dcd202acc648419de4992748fa472d66c4fc404ed955bf2382fbe", func := "loop.example/g00478/laws.FnExactCanTurn", spec := "fnExactCanTurn", apart := false }
def FnExactCanTurnSaid : Prop := fnExactCanTurnRow.holds Tryz.pinned (OpenSpec.ofChange fnExactCanTurnSpec)

/-- ITS FALSE NEIGHBOUR: 'it returns false'. Refute it at one input. -/
def fnExactCanTurnWrong : ChangeSpec := { name := "fnExactCanTurn", fn := fun _ => fun
  | [d1, d2] => { results := [.lit (.bool false)], args := [d1, d2] }
  | _ => none }
def FnExactCanTurnWrongFalsely : Prop := fnExactCanTurnRow.holds Tryz.pinned (OpenSpec.ofChange fnExactCanTurnWrong)

/-- 'laws.FnExactCanMove': WHATEVER THE INPUT: true; the input reads as it did. -/
def fnExactCanMoveSpec : ChangeSpec := { name := "fnExactCanMove", fn := fun _ => fun
  | [d1, d2, d3] => { results := [.lit (.bool true)], args := [d1, d2, d3] }
  | _ => none }
def fnExactCanMoveRow : OpenClaim := { program := "ytoambampcllmcaagreat", sum := "1f7450962a3dcd202acc648419de4992748fa472d66c4fc404ed955bf2382fbe", func := "loop.example/g00478/laws.FnExactCanMove", spec := "fnExactCanMove", apart := false }
def FnExactCanMoveSaid : Prop := fnExactCanMoveRow.holds Tryz.pinned (OpenSpec.ofChange fnExactCanMoveSpec)

/-- ITS FALSE NEIGHBOUR: 'it returns false'. Refute it at one input. -/
def fnExactCanMoveWrong : ChangeSpec := { name := "fnExactCanMove", fn := fun _ => fun
  | [d1, d2, d3] => { results := [.lit (.bool false)], args := [d1, d2, d3] }
  | _ => none }
def FnExactCanMoveWrongFalsely : Prop := fnExactCanMoveRow.holds Tryz.pinned (OpenSpec.ofChange fnExactCanMoveWrong)

/-- 'laws.FnExactCanDial': WHATEVER THE INPUT: true; the input reads as it did. -/
def fnExactCanDialSpec : ChangeSpec := { name := "fnExactCanDial", fn := fun _ => fun
  | [d1, d2] => { results := [.lit (.bool true)], args := [d1, d2] }
  | _ => none }
def fnExactCanDialRow : OpenClaim := { program := "ytoambampcllmcaagreat", sum := "1f7450962a3dcd202acc648419de4992748fa472d66c4fc404ed955bf2382fbe", func := "loop.example/g00478/laws.FnExactCanDial", spec := "fnExactCanDial", apart := false }
def FnExactCanDialSaid : Prop := fnExactCanDialRow.holds Tryz.pinned (OpenSpec.ofChange fnExactCanDialSpec)

/-- ITS FALSE NEIGHBOUR: 'it returns false'. Refute it at one input. -/
def fnExactCanDialWrong : ChangeSpec := { name := "fnExactCanDial", fn := fun _ => fun
  | [d1, d2] => { results := [.lit (.bool false)], args := [d1, d2] }
  | _ => none }
def FnExactCanDialWrongFalsely : Prop := fnExactCanDialRow.holds Tryz.pinned (OpenSpec.ofChange fnExactCanDialWrong)

/- THE SECOND FORM. 'bulk': how many values and letters a reading holds, each counted each time it is reached (what is shared counts as often as it is met; a slice's spare places count too). A statement '..UptoSaid' is the law's where the arguments, and the package variables that the reading takes, are together of bulk at most 1048576: NARROWER than '..Said'. Prove '..Said' where nothing that the law and all that it calls make is longer than what came in: it says more and counts as full. Else prove '..UptoSaid'. A law counts once. -/
mutual
def uptoBulk {H : Type} : DataW H → Nat
  | .lit (.string bytes) => bytes.length + 1
  | .lit _ => 1
  | .nil => 1
  | .ptr d => uptoBulk d + 1
  | .slice elems spare => uptoBulkAll elems + uptoBulkAll spare + 1
  | .agg parts => uptoBulkAll parts + 1
  | .iface _ d => uptoBulk d + 1
  | .map entries => uptoBulkEntries entries + 1
  | .held _ => 1
def uptoBulkAll {H : Type} : List (DataW H) → Nat
  | [] => 0
  | d :: r => uptoBulk d + uptoBulkAll r
def uptoBulkEntries {H : Type} : List (Lit × DataW H) → Nat
  | [] => 0
  | x :: r => uptoBulkEntry x + uptoBulkEntries r
def uptoBulkEntry {H : Type} : Lit × DataW H → Nat
  | (.string bytes, d) => bytes.length + uptoBulk d + 1
  | (_, d) => uptoBulk d + 1
 end
def uptoSmall : (H : Type) → List (DataW H) → Bool := fun _ ds => decide (uptoBulkAll ds ≤ 1048576)
def OpenSpec.upto (s : _root_.Go.ChangeSpec) : _root_.Go.OpenSpec := { _root_.Go.OpenSpec.ofChange s with cond := some uptoSmall }

/-- 'laws.FnExactWorldOk', WHERE WHAT IT READS IS OF BULK AT MOST 1048576: true; the input reads as it did. -/
def fnExactWorldOkUptoRow : OpenClaim := { program := "ytoambampcllmcaagreat", sum := "1f7450962a3dcd202acc648419de4992748fa472d66c4fc404ed955bf2382fbe", func := "loop.example/g00478/laws.FnExactWorldOk", spec := "fnExactWorldOk", apart := false, narrowed := true }
def FnExactWorldOkUptoSaid : Prop := fnExactWorldOkUptoRow.holds Tryz.pinned (OpenSpec.upto fnExactWorldOkSpec)

/-- 'laws.FnExactSleeps', WHERE WHAT IT READS IS OF BULK AT MOST 1048576: true; the input reads as it did. -/
def fnExactSleepsUptoRow : OpenClaim := { program := "ytoambampcllmcaagreat", sum := "1f7450962a3dcd202acc648419de4992748fa472d66c4fc404ed955bf2382fbe", func := "loop.example/g00478/laws.FnExactSleeps", spec := "fnExactSleeps", apart := false, narrowed := true }
def FnExactSleepsUptoSaid : Prop := fnExactSleepsUptoRow.holds Tryz.pinned (OpenSpec.upto fnExactSleepsSpec)

/-- 'laws.FnExactSettled', WHERE WHAT IT READS IS OF BULK AT MOST 1048576: true; the input reads as it did. -/
def fnExactSettledUptoRow : OpenClaim := { program := "ytoambampcllmcaagreat", sum := "1f7450962a3dcd202acc648419de4992748fa472d66c4fc404ed955bf2382fbe", func := "loop.example/g00478/laws.FnExactSettled", spec := "fnExactSettled", apart := false, narrowed := true }
def FnExactSettledUptoSaid : Prop := fnExactSettledUptoRow.holds Tryz.pinned (OpenSpec.upto fnExactSettledSpec)

/-- 'laws.FnExactEpochsFit', WHERE WHAT IT READS IS OF BULK AT MOST 1048576: true; the input reads as it did. -/
def fnExactEpochsFitUptoRow : OpenClaim := { program := "ytoambampcllmcaagreat", sum := "1f7450962a3dcd202acc648419de4992748fa472d66c4fc404ed955bf2382fbe", func := "loop.example/g00478/laws.FnExactEpochsFit", spec := "fnExactEpochsFit", apart := false, narrowed := true }
def FnExactEpochsFitUptoSaid : Prop := fnExactEpochsFitUptoRow.holds Tryz.pinned (OpenSpec.upto fnExactEpochsFitSpec)

/-- 'laws.FnExactLinked', WHERE WHAT IT READS IS OF BULK AT MOST 1048576: true; the input reads as it did. -/
def fnExactLinkedUptoRow : OpenClaim := { program := "ytoambampcllmcaagreat", sum := "1f7450962a3dcd202acc648419de4992748fa472d66c4fc404ed955bf2382fbe", func := "loop.example/g00478/laws.FnExactLinked", spec := "fnExactLinked", apart := false, narrowed := true }
def FnExactLinkedUptoSaid : Prop := fnExactLinkedUptoRow.holds Tryz.pinned (OpenSpec.upto fnExactLinkedSpec)

/-- 'laws.FnExactCanTurn', WHERE WHAT IT READS IS OF BULK AT MOST 1048576: true; the input reads as it did. -/
def fnExactCanTurnUptoRow : OpenClaim := { program := "ytoambampcllmcaagreat", sum := "1f7450962a3dcd202acc648419de4992748fa472d66c4fc404ed955bf2382fbe", func := "loop.example/g00478/laws.FnExactCanTurn", spec := "fnExactCanTurn", apart := false, narrowed := true }
def FnExactCanTurnUptoSaid : Prop := fnExactCanTurnUptoRow.holds Tryz.pinned (OpenSpec.upto fnExactCanTurnSpec)

/-- 'laws.FnExactCanMove', WHERE WHAT IT READS IS OF BULK AT MOST 1048576: true; the input reads as it did. -/
def fnExactCanMoveUptoRow : OpenClaim := { program := "ytoambampcllmcaagreat", sum := "1f7450962a3dcd202acc648419de4992748fa472d66c4fc404ed955bf2382fbe", func := "loop.example/g00478/laws.FnExactCanMove", spec := "fnExactCanMove", apart := false, narrowed := true }
def FnExactCanMoveUptoSaid : Prop := fnExactCanMoveUptoRow.holds Tryz.pinned (OpenSpec.upto fnExactCanMoveSpec)

/-- 'laws.FnExactCanDial', WHERE WHAT IT READS IS OF BULK AT MOST 1048576: true; the input reads as it did. -/
def fnExactCanDialUptoRow : OpenClaim := { program := "ytoambampcllmcaagreat", sum := "1f7450962a3dcd202acc648419de4992748fa472d66c4fc404ed955bf2382fbe", func := "loop.example/g00478/laws.FnExactCanDial", spec := "fnExactCanDial", apart := false, narrowed := true }
def FnExactCanDialUptoSaid : Prop := fnExactCanDialUptoRow.holds Tryz.pinned (OpenSpec.upto fnExactCanDialSpec)

end Rows
end Go.Proofs.YtoambampcllmcaaGreat

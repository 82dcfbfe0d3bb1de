/-
  No cell of these rows narrows 'for every input' (looked for: loops, veiled, ifaces, maps, wideKeys, modest, calm, conditions, laid).
  DERIVED. THE GIVEN ROWS OF THIS SEAT. 13 by the template 'for every input the law returns true; each argument reads behind the call as it read before'; 0 by the template 'total and deterministic' (their statements: YtilkenfgjljknaaTotals.lean).
  GIVEN WITH THE SEED: the statements are not yours to turn. If you find one false, say at which input.
  Laid BY PROGRAM, IN A SANDBOX (cutbox-rows.mjs): the forced cells as the released guide's own fill.sh prints them over the translation 83f824c46c87d758… (all of the seat's roots in one cut). By AI agents, Wed Nov 11 2026. No macro, syntax, notation, axiom, sorry.
-/
import Derived.Test.YtilkenfgjljknaaChecked
import GoSem.Claim
import GoSem.ClaimJoined
import GoSem.ClaimMapViews
import Derived.JoinedTies
import Derived.KernelRfl
namespace Go.Proofs.Ytilkenfgjljknaa
/- THE CELL 'sum', in the pinned program and in every row, IS THE sha256 OF THE DUMP (.gsa) THAT YtilkenfgjljknaaProg.lean LOADS. Nothing in Lean hashes anything: it is a label: what it is worth is what the hold of that sum in a sandbox is worth. -/
noncomputable def Try.pinned : Pinned := { name := "ytilkenfgjljknaa", sum := "83f824c46c87d758723ead3864b0d071c6bcbbf79ccda4a2f8835eef447858bd", checked := Try.checked }
namespace Rows
def none {H : Type} : Left H := { results := [], args := [] }

/-- 'laws.FnExactStName': WHATEVER THE INPUT: true; the input reads as it did. -/
def fnExactStNameSpec : ChangeSpec := { name := "fnExactStName", fn := fun _ => fun
  | [d] => { results := [.lit (.bool true)], args := [d] }
  | _ => none }
def fnExactStNameRow : OpenClaim := { program := "ytilkenfgjljknaa", sum := "83f824c46c87d758723ead3864b0d071c6bcbbf79ccda4a2f8835eef447858bd", func := "loop.example/g00478/laws.FnExactStName", spec := "fnExactStName", apart := false }
def FnExactStNameSaid : Prop := fnExactStNameRow.holds Try.pinned (OpenSpec.ofChange fnExactStNameSpec)

/-- ITS FALSE NEIGHBOUR: 'it returns false'. Refute it at one input. -/
def fnExactStNameWrong : ChangeSpec := { name := "fnExactStName", fn := fun _ => fun
  | [d] => { results := [.lit (.bool false)], args := [d] }
  | _ => none }
def FnExactStNameWrongFalsely : Prop := fnExactStNameRow.holds Try.pinned (OpenSpec.ofChange fnExactStNameWrong)

/-- 'laws.FnExactHub': WHATEVER THE INPUT: true; the input reads as it did. -/
def fnExactHubSpec : ChangeSpec := { name := "fnExactHub", fn := fun _ => fun
  | [] => { results := [.lit (.bool true)], args := [] }
  | _ => none }
def fnExactHubRow : OpenClaim := { program := "ytilkenfgjljknaa", sum := "83f824c46c87d758723ead3864b0d071c6bcbbf79ccda4a2f8835eef447858bd", func := "loop.example/g00478/laws.FnExactHub", spec := "fnExactHub", apart := false }
def FnExactHubSaid : Prop := fnExactHubRow.holds Try.pinned (OpenSpec.ofChange fnExactHubSpec)

/-- ITS FALSE NEIGHBOUR: 'it returns false'. Refute it at one input. -/
def fnExactHubWrong : ChangeSpec := { name := "fnExactHub", fn := fun _ => fun
  | [] => { results := [.lit (.bool false)], args := [] }
  | _ => none }
def FnExactHubWrongFalsely : Prop := fnExactHubRow.holds Try.pinned (OpenSpec.ofChange fnExactHubWrong)

/-- 'laws.FnExactCreditFor': WHATEVER THE INPUT: true; the input reads as it did. -/
def fnExactCreditForSpec : ChangeSpec := { name := "fnExactCreditFor", fn := fun _ => fun
  | [d1, d2] => { results := [.lit (.bool true)], args := [d1, d2] }
  | _ => none }
def fnExactCreditForRow : OpenClaim := { program := "ytilkenfgjljknaa", sum := "83f824c46c87d758723ead3864b0d071c6bcbbf79ccda4a2f8835eef447858bd", func := "loop.example/g00478/laws.FnExactCreditFor", spec := "fnExactCreditFor", apart := false }
def FnExactCreditForSaid : Prop := fnExactCreditForRow.holds Try.pinned (OpenSpec.ofChange fnExactCreditForSpec)

/-- ITS FALSE NEIGHBOUR: 'it returns false'. Refute it at one input. -/
def fnExactCreditForWrong : ChangeSpec := { name := "fnExactCreditFor", fn := fun _ => fun
  | [d1, d2] => { results := [.lit (.bool false)], args := [d1, d2] }
  | _ => none }
def FnExactCreditForWrongFalsely : Prop := fnExactCreditForRow.holds Try.pinned (OpenSpec.ofChange fnExactCreditForWrong)

/-- 'laws.FnExactEventOk': WHATEVER THE INPUT: true; the input reads as it did. -/
def fnExactEventOkSpec : ChangeSpec := { name := "fnExactEventOk", fn := fun _ => fun
  | [d] => { results := [.lit (.bool true)], args := [d] }
  | _ => none }
def fnExactEventOkRow : OpenClaim := { program := "ytilkenfgjljknaa", sum := "83f824c46c87d758723ead3864b0d071c6bcbbf79ccda4a2f8835eef447858bd", func := "loop.example/g00478/laws.FnExactEventOk", spec := "fnExactEventOk", apart := false }
def FnExactEventOkSaid : Prop := fnExactEventOkRow.holds Try.pinned (OpenSpec.ofChange fnExactEventOkSpec)

/-- ITS FALSE NEIGHBOUR: 'it returns false'. Refute it at one input. -/
def fnExactEventOkWrong : ChangeSpec := { name := "fnExactEventOk", fn := fun _ => fun
  | [d] => { results := [.lit (.bool false)], args := [d] }
  | _ => none }
def FnExactEventOkWrongFalsely : Prop := fnExactEventOkRow.holds Try.pinned (OpenSpec.ofChange fnExactEventOkWrong)

/-- 'laws.FnExactShown': WHATEVER THE INPUT: true; the input reads as it did. -/
def fnExactShownSpec : ChangeSpec := { name := "fnExactShown", fn := fun _ => fun
  | [d1, d2] => { results := [.lit (.bool true)], args := [d1, d2] }
  | _ => none }
def fnExactShownRow : OpenClaim := { program := "ytilkenfgjljknaa", sum := "83f824c46c87d758723ead3864b0d071c6bcbbf79ccda4a2f8835eef447858bd", func := "loop.example/g00478/laws.FnExactShown", spec := "fnExactShown", apart := false }
def FnExactShownSaid : Prop := fnExactShownRow.holds Try.pinned (OpenSpec.ofChange fnExactShownSpec)

/-- ITS FALSE NEIGHBOUR: 'it returns false'. Refute it at one input. -/
def fnExactShownWrong : ChangeSpec := { name := "fnExactShown", fn := fun _ => fun
  | [d1, d2] => { results := [.lit (.bool false)], args := [d1, d2] }
  | _ => none }
def FnExactShownWrongFalsely : Prop := fnExactShownRow.holds Try.pinned (OpenSpec.ofChange fnExactShownWrong)

/-- 'laws.FnExactRolled': WHATEVER THE INPUT: true; the input reads as it did. -/
def fnExactRolledSpec : ChangeSpec := { name := "fnExactRolled", fn := fun _ => fun
  | [d] => { results := [.lit (.bool true)], args := [d] }
  | _ => none }
def fnExactRolledRow : OpenClaim := { program := "ytilkenfgjljknaa", sum := "83f824c46c87d758723ead3864b0d071c6bcbbf79ccda4a2f8835eef447858bd", func := "loop.example/g00478/laws.FnExactRolled", spec := "fnExactRolled", apart := false }
def FnExactRolledSaid : Prop := fnExactRolledRow.holds Try.pinned (OpenSpec.ofChange fnExactRolledSpec)

/-- ITS FALSE NEIGHBOUR: 'it returns false'. Refute it at one input. -/
def fnExactRolledWrong : ChangeSpec := { name := "fnExactRolled", fn := fun _ => fun
  | [d] => { results := [.lit (.bool false)], args := [d] }
  | _ => none }
def FnExactRolledWrongFalsely : Prop := fnExactRolledRow.holds Try.pinned (OpenSpec.ofChange fnExactRolledWrong)

/-- 'laws.FnExactKeyTwice': WHATEVER THE INPUT: true; the input reads as it did. -/
def fnExactKeyTwiceSpec : ChangeSpec := { name := "fnExactKeyTwice", fn := fun _ => fun
  | [d] => { results := [.lit (.bool true)], args := [d] }
  | _ => none }
def fnExactKeyTwiceRow : OpenClaim := { program := "ytilkenfgjljknaa", sum := "83f824c46c87d758723ead3864b0d071c6bcbbf79ccda4a2f8835eef447858bd", func := "loop.example/g00478/laws.FnExactKeyTwice", spec := "fnExactKeyTwice", apart := false }
def FnExactKeyTwiceSaid : Prop := fnExactKeyTwiceRow.holds Try.pinned (OpenSpec.ofChange fnExactKeyTwiceSpec)

/-- ITS FALSE NEIGHBOUR: 'it returns false'. Refute it at one input. -/
def fnExactKeyTwiceWrong : ChangeSpec := { name := "fnExactKeyTwice", fn := fun _ => fun
  | [d] => { results := [.lit (.bool false)], args := [d] }
  | _ => none }
def FnExactKeyTwiceWrongFalsely : Prop := fnExactKeyTwiceRow.holds Try.pinned (OpenSpec.ofChange fnExactKeyTwiceWrong)

/-- 'laws.FnExactForged': WHATEVER THE INPUT: true; the input reads as it did. -/
def fnExactForgedSpec : ChangeSpec := { name := "fnExactForged", fn := fun _ => fun
  | [d] => { results := [.lit (.bool true)], args := [d] }
  | _ => none }
def fnExactForgedRow : OpenClaim := { program := "ytilkenfgjljknaa", sum := "83f824c46c87d758723ead3864b0d071c6bcbbf79ccda4a2f8835eef447858bd", func := "loop.example/g00478/laws.FnExactForged", spec := "fnExactForged", apart := false }
def FnExactForgedSaid : Prop := fnExactForgedRow.holds Try.pinned (OpenSpec.ofChange fnExactForgedSpec)

/-- ITS FALSE NEIGHBOUR: 'it returns false'. Refute it at one input. -/
def fnExactForgedWrong : ChangeSpec := { name := "fnExactForged", fn := fun _ => fun
  | [d] => { results := [.lit (.bool false)], args := [d] }
  | _ => none }
def FnExactForgedWrongFalsely : Prop := fnExactForgedRow.holds Try.pinned (OpenSpec.ofChange fnExactForgedWrong)

/-- 'laws.FnExactLuckyAt': WHATEVER THE INPUT: true; the input reads as it did. -/
def fnExactLuckyAtSpec : ChangeSpec := { name := "fnExactLuckyAt", fn := fun _ => fun
  | [d] => { results := [.lit (.bool true)], args := [d] }
  | _ => none }
def fnExactLuckyAtRow : OpenClaim := { program := "ytilkenfgjljknaa", sum := "83f824c46c87d758723ead3864b0d071c6bcbbf79ccda4a2f8835eef447858bd", func := "loop.example/g00478/laws.FnExactLuckyAt", spec := "fnExactLuckyAt", apart := false }
def FnExactLuckyAtSaid : Prop := fnExactLuckyAtRow.holds Try.pinned (OpenSpec.ofChange fnExactLuckyAtSpec)

/-- ITS FALSE NEIGHBOUR: 'it returns false'. Refute it at one input. -/
def fnExactLuckyAtWrong : ChangeSpec := { name := "fnExactLuckyAt", fn := fun _ => fun
  | [d] => { results := [.lit (.bool false)], args := [d] }
  | _ => none }
def FnExactLuckyAtWrongFalsely : Prop := fnExactLuckyAtRow.holds Try.pinned (OpenSpec.ofChange fnExactLuckyAtWrong)

/-- 'laws.FnExactLucky': WHATEVER THE INPUT: true; the input reads as it did. -/
def fnExactLuckySpec : ChangeSpec := { name := "fnExactLucky", fn := fun _ => fun
  | [d] => { results := [.lit (.bool true)], args := [d] }
  | _ => none }
def fnExactLuckyRow : OpenClaim := { program := "ytilkenfgjljknaa", sum := "83f824c46c87d758723ead3864b0d071c6bcbbf79ccda4a2f8835eef447858bd", func := "loop.example/g00478/laws.FnExactLucky", spec := "fnExactLucky", apart := false }
def FnExactLuckySaid : Prop := fnExactLuckyRow.holds Try.pinned (OpenSpec.ofChange fnExactLuckySpec)

/-- ITS FALSE NEIGHBOUR: 'it returns false'. Refute it at one input. -/
def fnExactLuckyWrong : ChangeSpec := { name := "fnExactLucky", fn := fun _ => fun
  | [d] => { results := [.lit (.bool false)], args := [d] }
  | _ => none }
def FnExactLuckyWrongFalsely : Prop := fnExactLuckyRow.holds Try.pinned (OpenSpec.ofChange fnExactLuckyWrong)

/-- 'laws.FnExactFits': WHATEVER THE INPUT: true; the input reads as it did. -/
def fnExactFitsSpec : ChangeSpec := { name := "fnExactFits", fn := fun _ => fun
  | [d1, d2] => { results := [.lit (.bool true)], args := [d1, d2] }
  | _ => none }
def fnExactFitsRow : OpenClaim := { program := "ytilkenfgjljknaa", sum := "83f824c46c87d758723ead3864b0d071c6bcbbf79ccda4a2f8835eef447858bd", func := "loop.example/g00478/laws.FnExactFits", spec := "fnExactFits", unfollowed := true, recurses := true, apart := false }
def FnExactFitsSaid : Prop := fnExactFitsRow.holds Try.pinned (OpenSpec.ofChange fnExactFitsSpec)

/-- ITS FALSE NEIGHBOUR: 'it returns false'. Refute it at one input. -/
def fnExactFitsWrong : ChangeSpec := { name := "fnExactFits", fn := fun _ => fun
  | [d1, d2] => { results := [.lit (.bool false)], args := [d1, d2] }
  | _ => none }
def FnExactFitsWrongFalsely : Prop := fnExactFitsRow.holds Try.pinned (OpenSpec.ofChange fnExactFitsWrong)

/-- 'laws.FnExactIdeal': WHATEVER THE INPUT: true; the input reads as it did. -/
def fnExactIdealSpec : ChangeSpec := { name := "fnExactIdeal", fn := fun _ => fun
  | [d] => { results := [.lit (.bool true)], args := [d] }
  | _ => none }
def fnExactIdealRow : OpenClaim := { program := "ytilkenfgjljknaa", sum := "83f824c46c87d758723ead3864b0d071c6bcbbf79ccda4a2f8835eef447858bd", func := "loop.example/g00478/laws.FnExactIdeal", spec := "fnExactIdeal", unfollowed := true, recurses := true, apart := false }
def FnExactIdealSaid : Prop := fnExactIdealRow.holds Try.pinned (OpenSpec.ofChange fnExactIdealSpec)

/-- ITS FALSE NEIGHBOUR: 'it returns false'. Refute it at one input. -/
def fnExactIdealWrong : ChangeSpec := { name := "fnExactIdeal", fn := fun _ => fun
  | [d] => { results := [.lit (.bool false)], args := [d] }
  | _ => none }
def FnExactIdealWrongFalsely : Prop := fnExactIdealRow.holds Try.pinned (OpenSpec.ofChange fnExactIdealWrong)

/-- 'laws.FnExactErased': WHATEVER THE INPUT: true; the input reads as it did. -/
def fnExactErasedSpec : ChangeSpec := { name := "fnExactErased", fn := fun _ => fun
  | [d1, d2] => { results := [.lit (.bool true)], args := [d1, d2] }
  | _ => none }
def fnExactErasedRow : OpenClaim := { program := "ytilkenfgjljknaa", sum := "83f824c46c87d758723ead3864b0d071c6bcbbf79ccda4a2f8835eef447858bd", func := "loop.example/g00478/laws.FnExactErased", spec := "fnExactErased", apart := false }
def FnExactErasedSaid : Prop := fnExactErasedRow.holds Try.pinned (OpenSpec.ofChange fnExactErasedSpec)

/-- ITS FALSE NEIGHBOUR: 'it returns false'. Refute it at one input. -/
def fnExactErasedWrong : ChangeSpec := { name := "fnExactErased", fn := fun _ => fun
  | [d1, d2] => { results := [.lit (.bool false)], args := [d1, d2] }
  | _ => none }
def FnExactErasedWrongFalsely : Prop := fnExactErasedRow.holds Try.pinned (OpenSpec.ofChange fnExactErasedWrong)

/- THE SECOND FORM. 'bulk': how many values and letters a reading holds, each counted each time it is reached (what is shared counts as often as it is met; a slice's spare places count too). A statement '..UptoSaid' is the law's where the arguments, and the package variables that the reading takes, are together of bulk at most 1048576: NARROWER than '..Said'. Prove '..Said' where nothing that the law and all that it calls make is longer than what came in: it says more and counts as full. Else prove '..UptoSaid'. A law counts once. -/
mutual
def uptoBulk {H : Type} : DataW H → Nat
  | .lit (.string bytes) => bytes.length + 1
  | .lit _ => 1
  | .nil => 1
  | .ptr d => uptoBulk d + 1
  | .slice elems spare => uptoBulkAll elems + uptoBulkAll spare + 1
  | .agg parts => uptoBulkAll parts + 1
  | .iface _ d => uptoBulk d + 1
  | .map entries => uptoBulkEntries entries + 1
  | .held _ => 1
def uptoBulkAll {H : Type} : List (DataW H) → Nat
  | [] => 0
  | d :: r => uptoBulk d + uptoBulkAll r
def uptoBulkEntries {H : Type} : List (Lit × DataW H) → Nat
  | [] => 0
  | x :: r => uptoBulkEntry x + uptoBulkEntries r
def uptoBulkEntry {H : Type} : Lit × DataW H → Nat
  | (.string bytes, d) => bytes.length + uptoBulk d + 1
  | (_, d) => uptoBulk d + 1
 end
def uptoSmall : (H : Type) → List (DataW H) → Bool := fun _ ds => decide (uptoBulkAll ds ≤ 1048576)
def OpenSpec.upto (s : _root_.Go.ChangeSpec) : _root_.Go.OpenSpec := { _root_.Go.OpenSpec.ofChange s with cond := some uptoSmall }

/-- 'laws.FnExactStName', WHERE WHAT IT READS IS OF BULK AT MOST 1048576: true; the input reads as it did. -/
def fnExactStNameUptoRow : OpenClaim := { program := "ytilkenfgjljknaa", sum := "83f824c46c87d758723ead3864b0d071c6bcbbf79ccda4a2f8835eef447858bd", func := "loop.example/g00478/laws.FnExactStName", spec := "fnExactStName", apart := false, narrowed := true }
def FnExactStNameUptoSaid : Prop := fnExactStNameUptoRow.holds Try.pinned (OpenSpec.upto fnExactStNameSpec)

/-- 'laws.FnExactHub', WHERE WHAT IT READS IS OF BULK AT MOST 1048576: true; the input reads as it did. -/
def fnExactHubUptoRow : OpenClaim := { program := "ytilkenfgjljknaa", sum := "83f824c46c87d758723ead3864b0d071c6bcbbf79ccda4a2f8835eef447858bd", func := "loop.example/g00478/laws.FnExactHub", spec := "fnExactHub", apart := false, narrowed := true }
def FnExactHubUptoSaid : Prop := fnExactHubUptoRow.holds Try.pinned (OpenSpec.upto fnExactHubSpec)

/-- 'laws.FnExactCreditFor', WHERE WHAT IT READS IS OF BULK AT MOST 1048576: true; the input reads as it did. -/
def fnExactCreditForUptoRow : OpenClaim := { program := "ytilkenfgjljknaa", sum := "83f824c46c87d758723ead3864b0d071c6bcbbf79ccda4a2f8835eef447858bd", func := "loop.example/g00478/laws.FnExactCreditFor", spec := "fnExactCreditFor", apart := false, narrowed := true }
def FnExactCreditForUptoSaid : Prop := fnExactCreditForUptoRow.holds Try.pinned (OpenSpec.upto fnExactCreditForSpec)

/-- 'laws.FnExactEventOk', WHERE WHAT IT READS IS OF BULK AT MOST 1048576: true; the input reads as it did. -/
def fnExactEventOkUptoRow : OpenClaim := { program := "ytilkenfgjljknaa", sum := "83f824c46c87d758723ead3864b0d071c6bcbbf79ccda4a2f8835eef447858bd", func := "loop.example/g00478/laws.FnExactEventOk", spec := "fnExactEventOk", apart := false, narrowed := true }
def FnExactEventOkUptoSaid : Prop := fnExactEventOkUptoRow.holds Try.pinned (OpenSpec.upto fnExactEventOkSpec)

/-- 'laws.FnExactShown', WHERE WHAT IT READS IS OF BULK AT MOST 1048576: true; the input reads as it did. -/
def fnExactShownUptoRow : OpenClaim := { program := "ytilkenfgjljknaa", sum := "83f824c46c87d758723ead3864b0d071c6bcbbf79ccda4a2f8835eef447858bd", func := "loop.example/g00478/laws.FnExactShown", spec := "fnExactShown", apart := false, narrowed := true }
def FnExactShownUptoSaid : Prop := fnExactShownUptoRow.holds Try.pinned (OpenSpec.upto fnExactShownSpec)

/-- 'laws.FnExactRolled', WHERE WHAT IT READS IS OF BULK AT MOST 1048576: true; the input reads as it did. -/
def fnExactRolledUptoRow : OpenClaim := { program := "ytilkenfgjljknaa", sum := "83f824c46c87d758723ead3864b0d071c6bcbbf79ccda4a2f8835eef447858bd", func := "loop.example/g00478/laws.FnExactRolled", spec := "fnExactRolled", apart := false, narrowed := true }
def FnExactRolledUptoSaid : Prop := fnExactRolledUptoRow.holds Try.pinned (OpenSpec.upto fnExactRolledSpec)

/-- 'laws.FnExactKeyTwice', WHERE WHAT IT READS IS OF BULK AT MOST 1048576: true; the input reads as it did. -/
def fnExactKeyTwiceUptoRow : OpenClaim := { program := "ytilkenfgjljknaa", sum := "83f824c46c87d758723ead3864b0d071c6bcbbf79ccda4a2f8835eef447858bd", func := "loop.example/g00478/laws.FnExactKeyTwice", spec := "fnExactKeyTwice", apart := false, narrowed := true }
def FnExactKeyTwiceUptoSaid : Prop := fnExactKeyTwiceUptoRow.holds Try.pinned (OpenSpec.upto fnExactKeyTwiceSpec)

/-- 'laws.FnExactForged', WHERE WHAT IT READS IS OF BULK AT MOST 1048576: true; the input reads as it did. -/
def fnExactForgedUptoRow : OpenClaim := { program := "ytilkenfgjljknaa", sum := "83f824c46c87d758723ead3864b0d071c6bcbbf79ccda4a2f8835eef447858bd", func := "loop.example/g00478/laws.FnExactForged", spec := "fnExactForged", apart := false, narrowed := true }
def FnExactForgedUptoSaid : Prop := fnExactForgedUptoRow.holds Try.pinned (OpenSpec.upto fnExactForgedSpec)

/-- 'laws.FnExactLuckyAt', WHERE WHAT IT READS IS OF BULK AT MOST 1048576: true; the input reads as it did. -/
def fnExactLuckyAtUptoRow : OpenClaim := { program := "ytilkenfgjljknaa", sum := "83f824c46c87d758723ead3864b0d071c6bcbbf79ccda4a2f8835eef447858bd", func := "loop.example/g00478/laws.FnExactLuckyAt", spec := "fnExactLuckyAt", apart := false, narrowed := true }
def FnExactLuckyAtUptoSaid : Prop := fnExactLuckyAtUptoRow.holds Try.pinned (OpenSpec.upto fnExactLuckyAtSpec)

/-- 'laws.FnExactLucky', WHERE WHAT IT READS IS OF BULK AT MOST 1048576: true; the input reads as it did. -/
def fnExactLuckyUptoRow : OpenClaim := { program := "ytilkenfgjljknaa", sum := "83f824c46c87d758723ead3864b0d071c6bcbbf79ccda4a2f8835eef447858bd", func := "loop.example/g00478/laws.FnExactLucky", spec := "fnExactLucky", apart := false, narrowed := true }
def FnExactLuckyUptoSaid : Prop := fnExactLuckyUptoRow.holds Try.pinned (OpenSpec.upto fnExactLuckySpec)

/-- 'laws.FnExactFits', WHERE WHAT IT READS IS OF BULK AT MOST 1048576: true; the input reads as it did. -/
def fnExactFitsUptoRow : OpenClaim := { program := "ytilkenfgjljknaa", sum := "83f824c46c87d758723ead3864b0d071c6bcbbf79ccda4a2f8835eef447858bd", func := "loop.example/g00478/laws.FnExactFits", spec := "fnExactFits", unfollowed := true, recurses := true, apart := false, narrowed := true }
def FnExactFitsUptoSaid : Prop := fnExactFitsUptoRow.holds Try.pinned (OpenSpec.upto fnExactFitsSpec)

/-- 'laws.FnExactIdeal', WHERE WHAT IT READS IS OF BULK AT MOST 1048576: true; the input reads as it did. -/
def fnExactIdealUptoRow : OpenClaim := { program := "ytilkenfgjljknaa", sum := "83f824c46c87d758723ead3864b0d071c6bcbbf79ccda4a2f8835eef447858bd", func := "loop.example/g00478/laws.FnExactIdeal", spec := "fnExactIdeal", unfollowed := true, recurses := true, apart := false, narrowed := true }
def FnExactIdealUptoSaid : Prop := fnExactIdealUptoRow.holds Try.pinned (OpenSpec.upto fnExactIdealSpec)

/-- 'laws.FnExactErased', WHERE WHAT IT READS IS OF BULK AT MOST 1048576: true; the input reads as it did. -/
def fnExactErasedUptoRow : OpenClaim := { program := "ytilkenfgjljknaa", sum := "83f824c46c87d758723ead3864b0d071c6bcbbf79ccda4a2f8835eef447858bd", func := "loop.example/g00478/laws.FnExactErased", spec := "fnExactErased", apart := false, narrowed := true }
def FnExactErasedUptoSaid : Prop := fnExactErasedUptoRow.holds Try.pinned (OpenSpec.upto fnExactErasedSpec)

end Rows
end Go.Proofs.Ytilkenfgjljknaa

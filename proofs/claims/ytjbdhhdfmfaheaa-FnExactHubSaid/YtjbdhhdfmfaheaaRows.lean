/-
  No cell of these rows narrows 'for every input' (looked for: loops, veiled, ifaces, maps, wideKeys, modest, calm, conditions, laid).
  DERIVED. THE GIVEN ROWS OF THIS SEAT. 3 by the template 'for every input the law returns true; each argument reads behind the call as it read before'; 0 by the template 'total and deterministic' (their statements: YtjbdhhdfmfaheaaTotals.lean).
  GIVEN WITH THE SEED: the statements are not yours to turn. If you find one false, say at which input.
  Laid BY PROGRAM, IN A SANDBOX (cutbox-rows.mjs): the forced cells as the released guide's own fill.sh prints them over the translation 4ce7ce7fabe3b19b… (all of the seat's roots in one cut). By AI agents, Wed Nov 11 2026. No macro, syntax, notation, axiom, sorry.
-/
import Derived.Test.YtjbdhhdfmfaheaaChecked
import GoSem.Claim
import GoSem.ClaimJoined
import GoSem.ClaimMapViews
import Derived.JoinedTies
import Derived.KernelRfl
namespace Go.Proofs.Ytjbdhhdfmfaheaa
/- THE CELL 'sum', in the pinned program and in every row, IS THE sha256 OF THE DUMP (.gsa) THAT YtjbdhhdfmfaheaaProg.lean LOADS. Nothing in Lean hashes anything: it is a label: what it is worth is what the hold of that sum in a sandbox is worth. -/
noncomputable def Try.pinned : Pinned := { name := "ytjbdhhdfmfaheaa", sum := "4ce7ce7fabe3b19b253e3021d57eddbd282aef04cf7ef154999a02391790a12b", checked := Try.checked }
namespace Rows
def none {H : Type} : Left H := { results := [], args := [] }

/-- 'laws.FnExactStName': WHATEVER THE INPUT: true; the input reads as it did. -/
def fnExactStNameSpec : ChangeSpec := { name := "fnExactStName", fn := fun _ => fun
  | [d] => { results := [.lit (.bool true)], args := [d] }
  | _ => none }
def fnExactStNameRow : OpenClaim := { program := "ytjbdhhdfmfaheaa", sum := "4ce7ce7fabe3b19b253e3021d57eddbd282aef04cf7ef154999a02391790a12b", func := "loop.example/g00478/laws.FnExactStName", spec := "fnExactStName", apart := false }
def FnExactStNameSaid : Prop := fnExactStNameRow.holds Try.pinned (OpenSpec.ofChange fnExactStNameSpec)

/-- ITS FALSE NEIGHBOUR: 'it returns false'. Refute it at one input. -/
def fnExactStNameWrong : ChangeSpec := { name := "fnExactStName", fn := fun _ => fun
  | [d] => { results := [.lit (.bool false)], args := [d] }
  | _ => none }
def FnExactStNameWrongFalsely : Prop := fnExactStNameRow.holds Try.pinned (OpenSpec.ofChange fnExactStNameWrong)

/-- 'laws.FnExactHub': WHATEVER THE INPUT: true; the input reads as it did. -/
def fnExactHubSpec : ChangeSpec := { name := "fnExactHub", fn := fun _ => fun
  | [] => { results := [.lit (.bool true)], args := [] }
  | _ => none }
def fnExactHubRow : OpenClaim := { program := "ytjbdhhdfmfaheaa", sum := "4ce7ce7fabe3b19b253e3021d57eddbd282aef04cf7ef154999a02391790a12b", func := "loop.example/g00478/laws.FnExactHub", spec := "fnExactHub", apart := false }
def FnExactHubSaid : Prop := fnExactHubRow.holds Try.pinned (OpenSpec.ofChange fnExactHubSpec)

/-- ITS FALSE NEIGHBOUR: 'it returns false'. Refute it at one input. -/
def fnExactHubWrong : ChangeSpec := { name := "fnExactHub", fn := fun _ => fun
  | [] => { results := [.lit (.bool false)], args := [] }
  | _ => none }
def FnExactHubWrongFalsely : Prop := fnExactHubRow.holds Try.pinned (OpenSpec.ofChange fnExactHubWrong)

/-- 'laws.FnExactCreditFor': WHATEVER THE INPUT: true; the input reads as it did. -/
def fnExactCreditForSpec : ChangeSpec := { name := "fnExactCreditFor", fn := fun _ => fun
  | [d1, d2] => { results := [.lit (.bool true)], args := [d1, d2] }
  | _ => none }
def fnExactCreditForRow : OpenClaim := { program := "ytjbdhhdfmfaheaa", sum := "4ce7ce7fabe3b19b253e3021d57eddbd282aef04cf7ef154999a02391790a12b", func := "loop.example/g00478/laws.FnExactCreditFor", spec := "fnExactCreditFor", apart := false }
def FnExactCreditForSaid : Prop := fnExactCreditForRow.holds Try.pinned (OpenSpec.ofChange fnExactCreditForSpec)

/-- ITS FALSE NEIGHBOUR: 'it returns false'. Refute it at one input. -/
def fnExactCreditForWrong : ChangeSpec := { name := "fnExactCreditFor", fn := fun _ => fun
  | [d1, d2] => { results := [.lit (.bool false)], args := [d1, d2] }
  | _ => none }
def FnExactCreditForWrongFalsely : Prop := fnExactCreditForRow.holds Try.pinned (OpenSpec.ofChange fnExactCreditForWrong)

/- THE SECOND FORM. 'bulk': how many values and letters a reading holds, each counted each time it is reached (what is shared counts as often as it is met; a slice's spare places count too). A statement '..UptoSaid' is the law's where the arguments, and the package variables that the reading takes, are together of bulk at most 1048576: NARROWER than '..Said'. Prove '..Said' where nothing that the law and all that it calls make is longer than what came in: it says more and counts as full. Else prove '..UptoSaid'. A law counts once. -/
mutual
def uptoBulk {H : Type} : DataW H → Nat
  | .lit (.string bytes) => bytes.length + 1
  | .lit _ => 1
  | .nil => 1
  | .ptr d => uptoBulk d + 1
  | .slice elems spare => uptoBulkAll elems + uptoBulkAll spare + 1
  | .agg parts => uptoBulkAll parts + 1
  | .iface _ d => uptoBulk d + 1
  | .map entries => uptoBulkEntries entries + 1
  | .held _ => 1
def uptoBulkAll {H : Type} : List (DataW H) → Nat
  | [] => 0
  | d :: r => uptoBulk d + uptoBulkAll r
def uptoBulkEntries {H : Type} : List (Lit × DataW H) → Nat
  | [] => 0
  | x :: r => uptoBulkEntry x + uptoBulkEntries r
def uptoBulkEntry {H : Type} : Lit × DataW H → Nat
  | (.string bytes, d) => bytes.length + uptoBulk d + 1
  | (_, d) => uptoBulk d + 1
 end
def uptoSmall : (H : Type) → List (DataW H) → Bool := fun _ ds => decide (uptoBulkAll ds ≤ 1048576)
def OpenSpec.upto (s : _root_.Go.ChangeSpec) : _root_.Go.OpenSpec := { _root_.Go.OpenSpec.ofChange s with cond := some uptoSmall }

/-- 'laws.FnExactStName', WHERE WHAT IT READS IS OF BULK AT MOST 1048576: true; the input reads as it did. -/
def fnExactStNameUptoRow : OpenClaim := { program := "ytjbdhhdfmfaheaa", sum := "4ce7ce7fabe3b19b253e3021d57eddbd282aef04cf7ef154999a02391790a12b", func := "loop.example/g00478/laws.FnExactStName", spec := "fnExactStName", apart := false, narrowed := true }
def FnExactStNameUptoSaid : Prop := fnExactStNameUptoRow.holds Try.pinned (OpenSpec.upto fnExactStNameSpec)

/-- 'laws.FnExactHub', WHERE WHAT IT READS IS OF BULK AT MOST 1048576: true; the input reads as it did. -/
def fnExactHubUptoRow : OpenClaim := { program := "ytjbdhhdfmfaheaa", sum := "4ce7ce7fabe3b19b253e3021d57eddbd282aef04cf7ef154999a02391790a12b", func := "loop.example/g00478/laws.FnExactHub", spec := "fnExactHub", apart := false, narrowed := true }
def FnExactHubUptoSaid : Prop := fnExactHubUptoRow.holds Try.pinned (OpenSpec.upto fnExactHubSpec)

/-- 'laws.FnExactCreditFor', WHERE WHAT IT READS IS OF BULK AT MOST 1048576: true; the input reads as it did. -/
def fnExactCreditForUptoRow : OpenClaim := { program := "ytjbdhhdfmfaheaa", sum := "4ce7ce7fabe3b19b253e3021d57eddbd282aef04cf7ef154999a02391790a12b", func := "loop.example/g00478/laws.FnExactCreditFor", spec := "fnExactCreditFor", apart := false, narrowed := true }
def FnExactCreditForUptoSaid : Prop := fnExactCreditForUptoRow.holds Try.pinned (OpenSpec.upto fnExactCreditForSpec)

end Rows
end Go.Proofs.Ytjbdhhdfmfaheaa

/-
  No cell of these rows narrows 'for every input' (looked for: loops, veiled, ifaces, maps, wideKeys, modest, calm, conditions, laid).
  DERIVED. THE GIVEN ROWS OF THIS SEAT. 4 by the template 'for every input the law returns true; each argument reads behind the call as it read before'; 0 by the template 'total and deterministic' (their statements: YtnlgkipjpbdodaaTotals.lean).
  GIVEN WITH THE SEED: the statements are not yours to turn. If you find one false, say at which input.
  Laid BY PROGRAM, IN A SANDBOX (cutbox-rows.mjs): the forced cells as the released guide's own fill.sh prints them over the translation 97d66e559082ae34… (all of the seat's roots in one cut). By AI agents, Wed Nov 11 2026. No macro, syntax, notation, axiom, sorry.
-/
import Derived.Test.YtnlgkipjpbdodaaChecked
import GoSem.Claim
import GoSem.ClaimJoined
import GoSem.ClaimMapViews
import Derived.JoinedTies
import Derived.KernelRfl
namespace Go.Proofs.Ytnlgkipjpbdodaa
/- THE CELL 'sum', in the pinned program and in every row, IS THE sha256 OF THE DUMP (.gsa) THAT YtnlgkipjpbdodaaProg.lean LOADS. Nothing in Lean hashes anything: it is a label: what it is worth is what the hold of that sum in a sandbox is worth. -/
noncomputable def Try.pinned : Pinned := { name := "ytnlgkipjpbdodaa", sum := "97d66e559082ae341076f44c97f0586bf708f21fcb50b02576c20e3b3d8acb68", checked := Try.checked }
namespace Rows
def none {H : Type} : Left H := { results := [], args := [] }

/-- 'laws.FnExactTableTimes': WHATEVER THE INPUT: true; the input reads as it did. -/
def fnExactTableTimesSpec : ChangeSpec := { name := "fnExactTableTimes", fn := fun _ => fun
  | [d1, d2] => { results := [.lit (.bool true)], args := [d1, d2] }
  | _ => none }
def fnExactTableTimesRow : OpenClaim := { program := "ytnlgkipjpbdodaa", sum := "97d66e559082ae341076f44c97f0586bf708f21fcb50b02576c20e3b3d8acb68", func := "loop.example/polarisedlight/laws.FnExactTableTimes", spec := "fnExactTableTimes", apart := false }
def FnExactTableTimesSaid : Prop := fnExactTableTimesRow.holds Try.pinned (OpenSpec.ofChange fnExactTableTimesSpec)

/-- ITS FALSE NEIGHBOUR: 'it returns false'. Refute it at one input. -/
def fnExactTableTimesWrong : ChangeSpec := { name := "fnExactTableTimes", fn := fun _ => fun
  | [d1, d2] => { results := [.lit (.bool false)], args := [d1, d2] }
  | _ => none }
def FnExactTableTimesWrongFalsely : Prop := fnExactTableTimesRow.holds Try.pinned (OpenSpec.ofChange fnExactTableTimesWrong)

/-- 'laws.FnExactTableMix': WHATEVER THE INPUT: true; the input reads as it did. -/
def fnExactTableMixSpec : ChangeSpec := { name := "fnExactTableMix", fn := fun _ => fun
  | [d1, d2, d3, d4] => { results := [.lit (.bool true)], args := [d1, d2, d3, d4] }
  | _ => none }
def fnExactTableMixRow : OpenClaim := { program := "ytnlgkipjpbdodaa", sum := "97d66e559082ae341076f44c97f0586bf708f21fcb50b02576c20e3b3d8acb68", func := "loop.example/polarisedlight/laws.FnExactTableMix", spec := "fnExactTableMix", apart := false }
def FnExactTableMixSaid : Prop := fnExactTableMixRow.holds Try.pinned (OpenSpec.ofChange fnExactTableMixSpec)

/-- ITS FALSE NEIGHBOUR: 'it returns false'. Refute it at one input. -/
def fnExactTableMixWrong : ChangeSpec := { name := "fnExactTableMix", fn := fun _ => fun
  | [d1, d2, d3, d4] => { results := [.lit (.bool false)], args := [d1, d2, d3, d4] }
  | _ => none }
def FnExactTableMixWrongFalsely : Prop := fnExactTableMixRow.holds Try.pinned (OpenSpec.ofChange fnExactTableMixWrong)

/-- 'laws.FnExactTableApply': WHATEVER THE INPUT: true; the input reads as it did. -/
def fnExactTableApplySpec : ChangeSpec := { name := "fnExactTableApply", fn := fun _ => fun
  | [d1, d2] => { results := [.lit (.bool true)], args := [d1, d2] }
  | _ => none }
def fnExactTableApplyRow : OpenClaim := { program := "ytnlgkipjpbdodaa", sum := "97d66e559082ae341076f44c97f0586bf708f21fcb50b02576c20e3b3d8acb68", func := "loop.example/polarisedlight/laws.FnExactTableApply", spec := "fnExactTableApply", apart := false }
def FnExactTableApplySaid : Prop := fnExactTableApplyRow.holds Try.pinned (OpenSpec.ofChange fnExactTableApplySpec)

/-- ITS FALSE NEIGHBOUR: 'it returns false'. Refute it at one input. -/
def fnExactTableApplyWrong : ChangeSpec := { name := "fnExactTableApply", fn := fun _ => fun
  | [d1, d2] => { results := [.lit (.bool false)], args := [d1, d2] }
  | _ => none }
def FnExactTableApplyWrongFalsely : Prop := fnExactTableApplyRow.holds Try.pinned (OpenSpec.ofChange fnExactTableApplyWrong)

/-- 'laws.FnMix': WHATEVER THE INPUT: true; the input reads as it did. -/
def fnMixSpec : ChangeSpec := { name := "fnMix", fn := fun _ => fun
  | [d] => { results := [.lit (.bool true)], args := [d] }
  | _ => none }
def fnMixRow : OpenClaim := { program := "ytnlgkipjpbdodaa", sum := "97d66e559082ae341076f44c97f0586bf708f21fcb50b02576c20e3b3d8acb68", func := "loop.example/polarisedlight/laws.FnMix", spec := "fnMix", apart := false }
def FnMixSaid : Prop := fnMixRow.holds Try.pinned (OpenSpec.ofChange fnMixSpec)

/-- ITS FALSE NEIGHBOUR: 'it returns false'. Refute it at one input. -/
def fnMixWrong : ChangeSpec := { name := "fnMix", fn := fun _ => fun
  | [d] => { results := [.lit (.bool false)], args := [d] }
  | _ => none }
def FnMixWrongFalsely : Prop := fnMixRow.holds Try.pinned (OpenSpec.ofChange fnMixWrong)

/- THE SECOND FORM. 'bulk': how many values and letters a reading holds, each counted each time it is reached (what is shared counts as often as it is met; a slice's spare places count too). A statement '..UptoSaid' is the law's where the arguments, and the package variables that the reading takes, are together of bulk at most 1048576: NARROWER than '..Said'. Prove '..Said' where nothing that the law and all that it calls make is longer than what came in: it says more and counts as full. Else prove '..UptoSaid'. A law counts once. -/
mutual
def uptoBulk {H : Type} : DataW H → Nat
  | .lit (.string bytes) => bytes.length + 1
  | .lit _ => 1
  | .nil => 1
  | .ptr d => uptoBulk d + 1
  | .slice elems spare => uptoBulkAll elems + uptoBulkAll spare + 1
  | .agg parts => uptoBulkAll parts + 1
  | .iface _ d => uptoBulk d + 1
  | .map entries => uptoBulkEntries entries + 1
  | .held _ => 1
def uptoBulkAll {H : Type} : List (DataW H) → Nat
  | [] => 0
  | d :: r => uptoBulk d + uptoBulkAll r
def uptoBulkEntries {H : Type} : List (Lit × DataW H) → Nat
  | [] => 0
  | x :: r => uptoBulkEntry x + uptoBulkEntries r
def uptoBulkEntry {H : Type} : Lit × DataW H → Nat
  | (.string bytes, d) => bytes.length + uptoBulk d + 1
  | (_, d) => uptoBulk d + 1
 end
def uptoSmall : (H : Type) → List (DataW H) → Bool := fun _ ds => decide (uptoBulkAll ds ≤ 1048576)
def OpenSpec.upto (s : _root_.Go.ChangeSpec) : _root_.Go.OpenSpec := { _root_.Go.OpenSpec.ofChange s with cond := some uptoSmall }

/-- 'laws.FnExactTableTimes', WHERE WHAT IT READS IS OF BULK AT MOST 1048576: true; the input reads as it did. -/
def fnExactTableTimesUptoRow : OpenClaim := { program := "ytnlgkipjpbdodaa", sum := "97d66e559082ae341076f44c97f0586bf708f21fcb50b02576c20e3b3d8acb68", func := "loop.example/polarisedlight/laws.FnExactTableTimes", spec := "fnExactTableTimes", apart := false, narrowed := true }
def FnExactTableTimesUptoSaid : Prop := fnExactTableTimesUptoRow.holds Try.pinned (OpenSpec.upto fnExactTableTimesSpec)

/-- 'laws.FnExactTableMix', WHERE WHAT IT READS IS OF BULK AT MOST 1048576: true; the input reads as it did. -/
def fnExactTableMixUptoRow : OpenClaim := { program := "ytnlgkipjpbdodaa", sum := "97d66e559082ae341076f44c97f0586bf708f21fcb50b02576c20e3b3d8acb68", func := "loop.example/polarisedlight/laws.FnExactTableMix", spec := "fnExactTableMix", apart := false, narrowed := true }
def FnExactTableMixUptoSaid : Prop := fnExactTableMixUptoRow.holds Try.pinned (OpenSpec.upto fnExactTableMixSpec)

/-- 'laws.FnExactTableApply', WHERE WHAT IT READS IS OF BULK AT MOST 1048576: true; the input reads as it did. -/
def fnExactTableApplyUptoRow : OpenClaim := { program := "ytnlgkipjpbdodaa", sum := "97d66e559082ae341076f44c97f0586bf708f21fcb50b02576c20e3b3d8acb68", func := "loop.example/polarisedlight/laws.FnExactTableApply", spec := "fnExactTableApply", apart := false, narrowed := true }
def FnExactTableApplyUptoSaid : Prop := fnExactTableApplyUptoRow.holds Try.pinned (OpenSpec.upto fnExactTableApplySpec)

/-- 'laws.FnMix', WHERE WHAT IT READS IS OF BULK AT MOST 1048576: true; the input reads as it did. -/
def fnMixUptoRow : OpenClaim := { program := "ytnlgkipjpbdodaa", sum := "97d66e559082ae341076f44c97f0586bf708f21fcb50b02576c20e3b3d8acb68", func := "loop.example/polarisedlight/laws.FnMix", spec := "fnMix", apart := false, narrowed := true }
def FnMixUptoSaid : Prop := fnMixUptoRow.holds Try.pinned (OpenSpec.upto fnMixSpec)

end Rows
end Go.Proofs.Ytnlgkipjpbdodaa

/-
  NARROWER THAN 'FOR EVERY INPUT', by the rows' own cells (each row's printed sentence says how): FnExactFilmBack: laid · FnExactFilmWide: laid · FnExactFilmSingle: laid · FnFilmSingle: laid · FnFilmWide: laid.
  DERIVED. THE GIVEN ROWS OF THIS SEAT. 5 by the template 'for every input the law returns true; each argument reads behind the call as it read before'; 0 by the template 'total and deterministic' (their statements: YtebldmiopbfmgaaDoorTotals.lean).
  GIVEN WITH THE SEED: the statements are not yours to turn. If you find one false, say at which input.
  Laid BY PROGRAM, IN A SANDBOX (cutbox-rows.mjs): the forced cells as the released guide's own fill.sh prints them over the translation b776b6fb9f583843… (all of the seat's roots in one cut). By AI agents, Wed Nov 11 2026. No macro, syntax, notation, axiom, sorry.
-/
import Derived.Test.YtebldmiopbfmgaaDoorChecked
import GoSem.Claim
import GoSem.ClaimJoined
import GoSem.ClaimMapViews
import Derived.JoinedTies
import Derived.KernelRfl
namespace Go.Proofs.YtebldmiopbfmgaaDoor
/- THE CELL 'sum', in the pinned program and in every row, IS THE sha256 OF THE DUMP (.gsa) THAT YtebldmiopbfmgaaDoorProg.lean LOADS. Nothing in Lean hashes anything: it is a label: what it is worth is what the hold of that sum in a sandbox is worth. -/
noncomputable def Tryd.pinned : Pinned := { name := "ytebldmiopbfmgaadoor", sum := "b776b6fb9f583843b0277d42cd00470874b934382e88374ba1cc3c41db3a7c42", checked := Tryd.checked }
namespace Rows
def none {H : Type} : Left H := { results := [], args := [] }

/- WHAT THE LISTED PACKAGE-LEVEL VARIABLES READ AS WHEN THE CALL BEGINS. Each datum BY PROGRAM (the guide's laid-datum.mjs) off the statement by which the dump's own 'gosem.cut.vars' lays the variable. In a bare row this is a premise. The card (YtebldmiopbfmgaaDoorCards.lean) ties it to the program's text. -/
def laid_loop_example_polarisedlight_impl_zero {H : Type} : DataW H := .agg [.lit (.int .i64 0), .lit (.int .i64 0), .lit (.int .i64 1)]
def laid_loop_example_polarisedlight_impl_one {H : Type} : DataW H := .agg [.lit (.int .i64 1), .lit (.int .i64 0), .lit (.int .i64 1)]
def laid_loop_example_polarisedlight_impl_unit {H : Type} : DataW H := .agg [.lit (.int .i64 0), .lit (.int .i64 1), .lit (.int .i64 1)]
def laid_loop_example_polarisedlight_impl_same {H : Type} : DataW H := .agg [.agg [.agg [.lit (.int .i64 1), .lit (.int .i64 0), .lit (.int .i64 1)], .agg [.lit (.int .i64 0), .lit (.int .i64 0), .lit (.int .i64 1)], .agg [.lit (.int .i64 0), .lit (.int .i64 0), .lit (.int .i64 1)], .agg [.lit (.int .i64 1), .lit (.int .i64 0), .lit (.int .i64 1)]]]

/-- 'laws.FnExactFilmBack': WHATEVER THE INPUT: true; the input reads as it did. -/
def fnExactFilmBackSpec : ChangeSpec := { name := "fnExactFilmBack", vars := ["loop.example/polarisedlight/impl.zero"], fn := fun _ => fun
  | [d, g1] => { results := [.lit (.bool true)], args := [d], vars := [g1] }
  | _ => none }
def fnExactFilmBackRow : OpenClaim := { program := "ytebldmiopbfmgaadoor", sum := "b776b6fb9f583843b0277d42cd00470874b934382e88374ba1cc3c41db3a7c42", func := "loop.example/polarisedlight/laws.FnExactFilmBack", spec := "fnExactFilmBack", named := ["loop.example/polarisedlight/impl.zero"], apart := false, laid := [("loop.example/polarisedlight/impl.zero", laid_loop_example_polarisedlight_impl_zero)] }
def FnExactFilmBackSaid : Prop := fnExactFilmBackRow.holds Tryd.pinned (OpenSpec.ofChange fnExactFilmBackSpec)

/-- ITS FALSE NEIGHBOUR: 'it returns false'. Refute it at one input. -/
def fnExactFilmBackWrong : ChangeSpec := { name := "fnExactFilmBack", vars := ["loop.example/polarisedlight/impl.zero"], fn := fun _ => fun
  | [d, g1] => { results := [.lit (.bool false)], args := [d], vars := [g1] }
  | _ => none }
def FnExactFilmBackWrongFalsely : Prop := fnExactFilmBackRow.holds Tryd.pinned (OpenSpec.ofChange fnExactFilmBackWrong)

/-- 'laws.FnExactFilmWide': WHATEVER THE INPUT: true; the input reads as it did. -/
def fnExactFilmWideSpec : ChangeSpec := { name := "fnExactFilmWide", vars := ["loop.example/polarisedlight/impl.zero"], fn := fun _ => fun
  | [d1, d2, d3, g1] => { results := [.lit (.bool true)], args := [d1, d2, d3], vars := [g1] }
  | _ => none }
def fnExactFilmWideRow : OpenClaim := { program := "ytebldmiopbfmgaadoor", sum := "b776b6fb9f583843b0277d42cd00470874b934382e88374ba1cc3c41db3a7c42", func := "loop.example/polarisedlight/laws.FnExactFilmWide", spec := "fnExactFilmWide", named := ["loop.example/polarisedlight/impl.zero"], apart := false, laid := [("loop.example/polarisedlight/impl.zero", laid_loop_example_polarisedlight_impl_zero)] }
def FnExactFilmWideSaid : Prop := fnExactFilmWideRow.holds Tryd.pinned (OpenSpec.ofChange fnExactFilmWideSpec)

/-- ITS FALSE NEIGHBOUR: 'it returns false'. Refute it at one input. -/
def fnExactFilmWideWrong : ChangeSpec := { name := "fnExactFilmWide", vars := ["loop.example/polarisedlight/impl.zero"], fn := fun _ => fun
  | [d1, d2, d3, g1] => { results := [.lit (.bool false)], args := [d1, d2, d3], vars := [g1] }
  | _ => none }
def FnExactFilmWideWrongFalsely : Prop := fnExactFilmWideRow.holds Tryd.pinned (OpenSpec.ofChange fnExactFilmWideWrong)

/-- 'laws.FnExactFilmSingle': WHATEVER THE INPUT: true; the input reads as it did. -/
def fnExactFilmSingleSpec : ChangeSpec := { name := "fnExactFilmSingle", vars := ["loop.example/polarisedlight/impl.zero"], fn := fun _ => fun
  | [d1, d2, d3, g1] => { results := [.lit (.bool true)], args := [d1, d2, d3], vars := [g1] }
  | _ => none }
def fnExactFilmSingleRow : OpenClaim := { program := "ytebldmiopbfmgaadoor", sum := "b776b6fb9f583843b0277d42cd00470874b934382e88374ba1cc3c41db3a7c42", func := "loop.example/polarisedlight/laws.FnExactFilmSingle", spec := "fnExactFilmSingle", named := ["loop.example/polarisedlight/impl.zero"], apart := false, laid := [("loop.example/polarisedlight/impl.zero", laid_loop_example_polarisedlight_impl_zero)] }
def FnExactFilmSingleSaid : Prop := fnExactFilmSingleRow.holds Tryd.pinned (OpenSpec.ofChange fnExactFilmSingleSpec)

/-- ITS FALSE NEIGHBOUR: 'it returns false'. Refute it at one input. -/
def fnExactFilmSingleWrong : ChangeSpec := { name := "fnExactFilmSingle", vars := ["loop.example/polarisedlight/impl.zero"], fn := fun _ => fun
  | [d1, d2, d3, g1] => { results := [.lit (.bool false)], args := [d1, d2, d3], vars := [g1] }
  | _ => none }
def FnExactFilmSingleWrongFalsely : Prop := fnExactFilmSingleRow.holds Tryd.pinned (OpenSpec.ofChange fnExactFilmSingleWrong)

/-- 'laws.FnFilmSingle': WHATEVER THE INPUT: true; the input reads as it did. -/
def fnFilmSingleSpec : ChangeSpec := { name := "fnFilmSingle", vars := ["loop.example/polarisedlight/impl.zero"], fn := fun _ => fun
  | [d, g1] => { results := [.lit (.bool true)], args := [d], vars := [g1] }
  | _ => none }
def fnFilmSingleRow : OpenClaim := { program := "ytebldmiopbfmgaadoor", sum := "b776b6fb9f583843b0277d42cd00470874b934382e88374ba1cc3c41db3a7c42", func := "loop.example/polarisedlight/laws.FnFilmSingle", spec := "fnFilmSingle", named := ["loop.example/polarisedlight/impl.zero"], apart := false, laid := [("loop.example/polarisedlight/impl.zero", laid_loop_example_polarisedlight_impl_zero)] }
def FnFilmSingleSaid : Prop := fnFilmSingleRow.holds Tryd.pinned (OpenSpec.ofChange fnFilmSingleSpec)

/-- ITS FALSE NEIGHBOUR: 'it returns false'. Refute it at one input. -/
def fnFilmSingleWrong : ChangeSpec := { name := "fnFilmSingle", vars := ["loop.example/polarisedlight/impl.zero"], fn := fun _ => fun
  | [d, g1] => { results := [.lit (.bool false)], args := [d], vars := [g1] }
  | _ => none }
def FnFilmSingleWrongFalsely : Prop := fnFilmSingleRow.holds Tryd.pinned (OpenSpec.ofChange fnFilmSingleWrong)

/-- 'laws.FnFilmWide': WHATEVER THE INPUT: true; the input reads as it did. -/
def fnFilmWideSpec : ChangeSpec := { name := "fnFilmWide", vars := ["loop.example/polarisedlight/impl.zero", "loop.example/polarisedlight/impl.one", "loop.example/polarisedlight/impl.same", "loop.example/polarisedlight/impl.unit"], fn := fun _ => fun
  | [d, g1, g2, g3, g4] => { results := [.lit (.bool true)], args := [d], vars := [g1, g2, g3, g4] }
  | _ => none }
def fnFilmWideRow : OpenClaim := { program := "ytebldmiopbfmgaadoor", sum := "b776b6fb9f583843b0277d42cd00470874b934382e88374ba1cc3c41db3a7c42", func := "loop.example/polarisedlight/laws.FnFilmWide", spec := "fnFilmWide", unfollowed := true, recurses := true, named := ["loop.example/polarisedlight/impl.zero", "loop.example/polarisedlight/impl.one", "loop.example/polarisedlight/impl.same", "loop.example/polarisedlight/impl.unit"], apart := false, laid := [("loop.example/polarisedlight/impl.zero", laid_loop_example_polarisedlight_impl_zero), ("loop.example/polarisedlight/impl.one", laid_loop_example_polarisedlight_impl_one), ("loop.example/polarisedlight/impl.unit", laid_loop_example_polarisedlight_impl_unit), ("loop.example/polarisedlight/impl.same", laid_loop_example_polarisedlight_impl_same)] }
def FnFilmWideSaid : Prop := fnFilmWideRow.holds Tryd.pinned (OpenSpec.ofChange fnFilmWideSpec)

/-- ITS FALSE NEIGHBOUR: 'it returns false'. Refute it at one input. -/
def fnFilmWideWrong : ChangeSpec := { name := "fnFilmWide", vars := ["loop.example/polarisedlight/impl.zero", "loop.example/polarisedlight/impl.one", "loop.example/polarisedlight/impl.same", "loop.example/polarisedlight/impl.unit"], fn := fun _ => fun
  | [d, g1, g2, g3, g4] => { results := [.lit (.bool false)], args := [d], vars := [g1, g2, g3, g4] }
  | _ => none }
def FnFilmWideWrongFalsely : Prop := fnFilmWideRow.holds Tryd.pinned (OpenSpec.ofChange fnFilmWideWrong)

/- THE SECOND FORM. 'bulk': how many values and letters a reading holds, each counted each time it is reached (what is shared counts as often as it is met; a slice's spare places count too). A statement '..UptoSaid' is the law's where the arguments, and the package variables that the reading takes, are together of bulk at most 1048576: NARROWER than '..Said'. Prove '..Said' where nothing that the law and all that it calls make is longer than what came in: it says more and counts as full. Else prove '..UptoSaid'. A law counts once. -/
mutual
def uptoBulk {H : Type} : DataW H → Nat
  | .lit (.string bytes) => bytes.length + 1
  | .lit _ => 1
  | .nil => 1
  | .ptr d => uptoBulk d + 1
  | .slice elems spare => uptoBulkAll elems + uptoBulkAll spare + 1
  | .agg parts => uptoBulkAll parts + 1
  | .iface _ d => uptoBulk d + 1
  | .map entries => uptoBulkEntries entries + 1
  | .held _ => 1
def uptoBulkAll {H : Type} : List (DataW H) → Nat
  | [] => 0
  | d :: r => uptoBulk d + uptoBulkAll r
def uptoBulkEntries {H : Type} : List (Lit × DataW H) → Nat
  | [] => 0
  | x :: r => uptoBulkEntry x + uptoBulkEntries r
def uptoBulkEntry {H : Type} : Lit × DataW H → Nat
  | (.string bytes, d) => bytes.length + uptoBulk d + 1
  | (_, d) => uptoBulk d + 1
 end
def uptoSmall : (H : Type) → List (DataW H) → Bool := fun _ ds => decide (uptoBulkAll ds ≤ 1048576)
def OpenSpec.upto (s : _root_.Go.ChangeSpec) : _root_.Go.OpenSpec := { _root_.Go.OpenSpec.ofChange s with cond := some uptoSmall }

/-- 'laws.FnExactFilmBack', WHERE WHAT IT READS IS OF BULK AT MOST 1048576: true; the input reads as it did. -/
def fnExactFilmBackUptoRow : OpenClaim := { program := "ytebldmiopbfmgaadoor", sum := "b776b6fb9f583843b0277d42cd00470874b934382e88374ba1cc3c41db3a7c42", func := "loop.example/polarisedlight/laws.FnExactFilmBack", spec := "fnExactFilmBack", named := ["loop.example/polarisedlight/impl.zero"], apart := false, laid := [("loop.example/polarisedlight/impl.zero", laid_loop_example_polarisedlight_impl_zero)], narrowed := true }
def FnExactFilmBackUptoSaid : Prop := fnExactFilmBackUptoRow.holds Tryd.pinned (OpenSpec.upto fnExactFilmBackSpec)

/-- 'laws.FnExactFilmWide', WHERE WHAT IT READS IS OF BULK AT MOST 1048576: true; the input reads as it did. -/
def fnExactFilmWideUptoRow : OpenClaim := { program := "ytebldmiopbfmgaadoor", sum := "b776b6fb9f583843b0277d42cd00470874b934382e88374ba1cc3c41db3a7c42", func := "loop.example/polarisedlight/laws.FnExactFilmWide", spec := "fnExactFilmWide", named := ["loop.example/polarisedlight/impl.zero"], apart := false, laid := [("loop.example/polarisedlight/impl.zero", laid_loop_example_polarisedlight_impl_zero)], narrowed := true }
def FnExactFilmWideUptoSaid : Prop := fnExactFilmWideUptoRow.holds Tryd.pinned (OpenSpec.upto fnExactFilmWideSpec)

/-- 'laws.FnExactFilmSingle', WHERE WHAT IT READS IS OF BULK AT MOST 1048576: true; the input reads as it did. -/
def fnExactFilmSingleUptoRow : OpenClaim := { program := "ytebldmiopbfmgaadoor", sum := "b776b6fb9f583843b0277d42cd00470874b934382e88374ba1cc3c41db3a7c42", func := "loop.example/polarisedlight/laws.FnExactFilmSingle", spec := "fnExactFilmSingle", named := ["loop.example/polarisedlight/impl.zero"], apart := false, laid := [("loop.example/polarisedlight/impl.zero", laid_loop_example_polarisedlight_impl_zero)], narrowed := true }
def FnExactFilmSingleUptoSaid : Prop := fnExactFilmSingleUptoRow.holds Tryd.pinned (OpenSpec.upto fnExactFilmSingleSpec)

/-- 'laws.FnFilmSingle', WHERE WHAT IT READS IS OF BULK AT MOST 1048576: true; the input reads as it did. -/
def fnFilmSingleUptoRow : OpenClaim := { program := "ytebldmiopbfmgaadoor", sum := "b776b6fb9f583843b0277d42cd00470874b934382e88374ba1cc3c41db3a7c42", func := "loop.example/polarisedlight/laws.FnFilmSingle", spec := "fnFilmSingle", named := ["loop.example/polarisedlight/impl.zero"], apart := false, laid := [("loop.example/polarisedlight/impl.zero", laid_loop_example_polarisedlight_impl_zero)], narrowed := true }
def FnFilmSingleUptoSaid : Prop := fnFilmSingleUptoRow.holds Tryd.pinned (OpenSpec.upto fnFilmSingleSpec)

/-- 'laws.FnFilmWide', WHERE WHAT IT READS IS OF BULK AT MOST 1048576: true; the input reads as it did. -/
def fnFilmWideUptoRow : OpenClaim := { program := "ytebldmiopbfmgaadoor", sum := "b776b6fb9f583843b0277d42cd00470874b934382e88374ba1cc3c41db3a7c42", func := "loop.example/polarisedlight/laws.FnFilmWide", spec := "fnFilmWide", unfollowed := true, recurses := true, named := ["loop.example/polarisedlight/impl.zero", "loop.example/polarisedlight/impl.one", "loop.example/polarisedlight/impl.same", "loop.example/polarisedlight/impl.unit"], apart := false, laid := [("loop.example/polarisedlight/impl.zero", laid_loop_example_polarisedlight_impl_zero), ("loop.example/polarisedlight/impl.one", laid_loop_example_polarisedlight_impl_one), ("loop.example/polarisedlight/impl.unit", laid_loop_example_polarisedlight_impl_unit), ("loop.example/polarisedlight/impl.same", laid_loop_example_polarisedlight_impl_same)], narrowed := true }
def FnFilmWideUptoSaid : Prop := fnFilmWideUptoRow.holds Tryd.pinned (OpenSpec.upto fnFilmWideSpec)

end Rows
end Go.Proofs.YtebldmiopbfmgaaDoor

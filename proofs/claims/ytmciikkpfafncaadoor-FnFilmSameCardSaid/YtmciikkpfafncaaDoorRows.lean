/-
  NARROWER THAN 'FOR EVERY INPUT', by the rows' own cells (each row's printed sentence says how): FnExactFilmSame: laid · FnExactFilmPassing: laid · FnExactFilmReflected: laid · FnReflected: laid · FnPassing: laid · FnFilmSame: laid · FnExactFilmPowers: laid · FnPowers: laid.
  DERIVED. THE GIVEN ROWS OF THIS SEAT. 8 by the template 'for every input the law returns true; each argument reads behind the call as it read before'; 0 by the template 'total and deterministic' (their statements: YtmciikkpfafncaaDoorTotals.lean).
  GIVEN WITH THE SEED: the statements are not yours to turn. If you find one false, say at which input.
  Laid BY PROGRAM, IN A SANDBOX (cutbox-rows.mjs): the forced cells as the released guide's own fill.sh prints them over the translation f8830e31dfe9fcbc… (all of the seat's roots in one cut). By AI agents, Wed Nov 11 2026. No macro, syntax, notation, axiom, sorry.
-/
import Derived.Test.YtmciikkpfafncaaDoorChecked
import GoSem.Claim
import GoSem.ClaimJoined
import GoSem.ClaimMapViews
import Derived.JoinedTies
import Derived.KernelRfl
namespace Go.Proofs.YtmciikkpfafncaaDoor
/- THE CELL 'sum', in the pinned program and in every row, IS THE sha256 OF THE DUMP (.gsa) THAT YtmciikkpfafncaaDoorProg.lean LOADS. Nothing in Lean hashes anything: it is a label: what it is worth is what the hold of that sum in a sandbox is worth. -/
noncomputable def Tryd.pinned : Pinned := { name := "ytmciikkpfafncaadoor", sum := "f8830e31dfe9fcbc264c330ca434878b002a6dea206a2fe92b5f9463568739c8", checked := Tryd.checked }
namespace Rows
def none {H : Type} : Left H := { results := [], args := [] }

/- WHAT THE LISTED PACKAGE-LEVEL VARIABLES READ AS WHEN THE CALL BEGINS. Each datum BY PROGRAM (the guide's laid-datum.mjs) off the statement by which the dump's own 'gosem.cut.vars' lays the variable. In a bare row this is a premise. The card (YtmciikkpfafncaaDoorCards.lean) ties it to the program's text. -/
def laid_loop_example_polarisedlight_impl_zero {H : Type} : DataW H := .agg [.lit (.int .i64 0), .lit (.int .i64 0), .lit (.int .i64 1)]
def laid_loop_example_polarisedlight_impl_unit {H : Type} : DataW H := .agg [.lit (.int .i64 0), .lit (.int .i64 1), .lit (.int .i64 1)]
def laid_loop_example_polarisedlight_impl_same {H : Type} : DataW H := .agg [.agg [.agg [.lit (.int .i64 1), .lit (.int .i64 0), .lit (.int .i64 1)], .agg [.lit (.int .i64 0), .lit (.int .i64 0), .lit (.int .i64 1)], .agg [.lit (.int .i64 0), .lit (.int .i64 0), .lit (.int .i64 1)], .agg [.lit (.int .i64 1), .lit (.int .i64 0), .lit (.int .i64 1)]]]
def laid_loop_example_polarisedlight_impl_one {H : Type} : DataW H := .agg [.lit (.int .i64 1), .lit (.int .i64 0), .lit (.int .i64 1)]

/-- 'laws.FnExactFilmSame': WHATEVER THE INPUT: true; the input reads as it did. -/
def fnExactFilmSameSpec : ChangeSpec := { name := "fnExactFilmSame", vars := ["loop.example/polarisedlight/impl.same", "loop.example/polarisedlight/impl.zero", "loop.example/polarisedlight/impl.unit"], fn := fun _ => fun
  | [d1, d2, g1, g2, g3] => { results := [.lit (.bool true)], args := [d1, d2], vars := [g1, g2, g3] }
  | _ => none }
def fnExactFilmSameRow : OpenClaim := { program := "ytmciikkpfafncaadoor", sum := "f8830e31dfe9fcbc264c330ca434878b002a6dea206a2fe92b5f9463568739c8", func := "loop.example/polarisedlight/laws.FnExactFilmSame", spec := "fnExactFilmSame", unfollowed := true, recurses := true, named := ["loop.example/polarisedlight/impl.same", "loop.example/polarisedlight/impl.zero", "loop.example/polarisedlight/impl.unit"], apart := false, laid := [("loop.example/polarisedlight/impl.zero", laid_loop_example_polarisedlight_impl_zero), ("loop.example/polarisedlight/impl.unit", laid_loop_example_polarisedlight_impl_unit), ("loop.example/polarisedlight/impl.same", laid_loop_example_polarisedlight_impl_same)] }
def FnExactFilmSameSaid : Prop := fnExactFilmSameRow.holds Tryd.pinned (OpenSpec.ofChange fnExactFilmSameSpec)

/-- ITS FALSE NEIGHBOUR: 'it returns false'. Refute it at one input. -/
def fnExactFilmSameWrong : ChangeSpec := { name := "fnExactFilmSame", vars := ["loop.example/polarisedlight/impl.same", "loop.example/polarisedlight/impl.zero", "loop.example/polarisedlight/impl.unit"], fn := fun _ => fun
  | [d1, d2, g1, g2, g3] => { results := [.lit (.bool false)], args := [d1, d2], vars := [g1, g2, g3] }
  | _ => none }
def FnExactFilmSameWrongFalsely : Prop := fnExactFilmSameRow.holds Tryd.pinned (OpenSpec.ofChange fnExactFilmSameWrong)

/-- 'laws.FnExactFilmPassing': WHATEVER THE INPUT: true; the input reads as it did. -/
def fnExactFilmPassingSpec : ChangeSpec := { name := "fnExactFilmPassing", vars := ["loop.example/polarisedlight/impl.one", "loop.example/polarisedlight/impl.zero", "loop.example/polarisedlight/impl.same", "loop.example/polarisedlight/impl.unit"], fn := fun _ => fun
  | [d1, d2, d3, g1, g2, g3, g4] => { results := [.lit (.bool true)], args := [d1, d2, d3], vars := [g1, g2, g3, g4] }
  | _ => none }
def fnExactFilmPassingRow : OpenClaim := { program := "ytmciikkpfafncaadoor", sum := "f8830e31dfe9fcbc264c330ca434878b002a6dea206a2fe92b5f9463568739c8", func := "loop.example/polarisedlight/laws.FnExactFilmPassing", spec := "fnExactFilmPassing", unfollowed := true, recurses := true, named := ["loop.example/polarisedlight/impl.one", "loop.example/polarisedlight/impl.zero", "loop.example/polarisedlight/impl.same", "loop.example/polarisedlight/impl.unit"], apart := false, laid := [("loop.example/polarisedlight/impl.zero", laid_loop_example_polarisedlight_impl_zero), ("loop.example/polarisedlight/impl.one", laid_loop_example_polarisedlight_impl_one), ("loop.example/polarisedlight/impl.unit", laid_loop_example_polarisedlight_impl_unit), ("loop.example/polarisedlight/impl.same", laid_loop_example_polarisedlight_impl_same)] }
def FnExactFilmPassingSaid : Prop := fnExactFilmPassingRow.holds Tryd.pinned (OpenSpec.ofChange fnExactFilmPassingSpec)

/-- ITS FALSE NEIGHBOUR: 'it returns false'. Refute it at one input. -/
def fnExactFilmPassingWrong : ChangeSpec := { name := "fnExactFilmPassing", vars := ["loop.example/polarisedlight/impl.one", "loop.example/polarisedlight/impl.zero", "loop.example/polarisedlight/impl.same", "loop.example/polarisedlight/impl.unit"], fn := fun _ => fun
  | [d1, d2, d3, g1, g2, g3, g4] => { results := [.lit (.bool false)], args := [d1, d2, d3], vars := [g1, g2, g3, g4] }
  | _ => none }
def FnExactFilmPassingWrongFalsely : Prop := fnExactFilmPassingRow.holds Tryd.pinned (OpenSpec.ofChange fnExactFilmPassingWrong)

/-- 'laws.FnExactFilmReflected': WHATEVER THE INPUT: true; the input reads as it did. -/
def fnExactFilmReflectedSpec : ChangeSpec := { name := "fnExactFilmReflected", vars := ["loop.example/polarisedlight/impl.one", "loop.example/polarisedlight/impl.zero", "loop.example/polarisedlight/impl.same", "loop.example/polarisedlight/impl.unit"], fn := fun _ => fun
  | [d1, d2, d3, g1, g2, g3, g4] => { results := [.lit (.bool true)], args := [d1, d2, d3], vars := [g1, g2, g3, g4] }
  | _ => none }
def fnExactFilmReflectedRow : OpenClaim := { program := "ytmciikkpfafncaadoor", sum := "f8830e31dfe9fcbc264c330ca434878b002a6dea206a2fe92b5f9463568739c8", func := "loop.example/polarisedlight/laws.FnExactFilmReflected", spec := "fnExactFilmReflected", unfollowed := true, recurses := true, named := ["loop.example/polarisedlight/impl.one", "loop.example/polarisedlight/impl.zero", "loop.example/polarisedlight/impl.same", "loop.example/polarisedlight/impl.unit"], apart := false, laid := [("loop.example/polarisedlight/impl.zero", laid_loop_example_polarisedlight_impl_zero), ("loop.example/polarisedlight/impl.one", laid_loop_example_polarisedlight_impl_one), ("loop.example/polarisedlight/impl.unit", laid_loop_example_polarisedlight_impl_unit), ("loop.example/polarisedlight/impl.same", laid_loop_example_polarisedlight_impl_same)] }
def FnExactFilmReflectedSaid : Prop := fnExactFilmReflectedRow.holds Tryd.pinned (OpenSpec.ofChange fnExactFilmReflectedSpec)

/-- ITS FALSE NEIGHBOUR: 'it returns false'. Refute it at one input. -/
def fnExactFilmReflectedWrong : ChangeSpec := { name := "fnExactFilmReflected", vars := ["loop.example/polarisedlight/impl.one", "loop.example/polarisedlight/impl.zero", "loop.example/polarisedlight/impl.same", "loop.example/polarisedlight/impl.unit"], fn := fun _ => fun
  | [d1, d2, d3, g1, g2, g3, g4] => { results := [.lit (.bool false)], args := [d1, d2, d3], vars := [g1, g2, g3, g4] }
  | _ => none }
def FnExactFilmReflectedWrongFalsely : Prop := fnExactFilmReflectedRow.holds Tryd.pinned (OpenSpec.ofChange fnExactFilmReflectedWrong)

/-- 'laws.FnReflected': WHATEVER THE INPUT: true; the input reads as it did. -/
def fnReflectedSpec : ChangeSpec := { name := "fnReflected", vars := ["loop.example/polarisedlight/impl.one", "loop.example/polarisedlight/impl.zero", "loop.example/polarisedlight/impl.same", "loop.example/polarisedlight/impl.unit"], fn := fun _ => fun
  | [d, g1, g2, g3, g4] => { results := [.lit (.bool true)], args := [d], vars := [g1, g2, g3, g4] }
  | _ => none }
def fnReflectedRow : OpenClaim := { program := "ytmciikkpfafncaadoor", sum := "f8830e31dfe9fcbc264c330ca434878b002a6dea206a2fe92b5f9463568739c8", func := "loop.example/polarisedlight/laws.FnReflected", spec := "fnReflected", unfollowed := true, recurses := true, named := ["loop.example/polarisedlight/impl.one", "loop.example/polarisedlight/impl.zero", "loop.example/polarisedlight/impl.same", "loop.example/polarisedlight/impl.unit"], apart := false, laid := [("loop.example/polarisedlight/impl.zero", laid_loop_example_polarisedlight_impl_zero), ("loop.example/polarisedlight/impl.one", laid_loop_example_polarisedlight_impl_one), ("loop.example/polarisedlight/impl.unit", laid_loop_example_polarisedlight_impl_unit), ("loop.example/polarisedlight/impl.same", laid_loop_example_polarisedlight_impl_same)] }
def FnReflectedSaid : Prop := fnReflectedRow.holds Tryd.pinned (OpenSpec.ofChange fnReflectedSpec)

/-- ITS FALSE NEIGHBOUR: 'it returns false'. Refute it at one input. -/
def fnReflectedWrong : ChangeSpec := { name := "fnReflected", vars := ["loop.example/polarisedlight/impl.one", "loop.example/polarisedlight/impl.zero", "loop.example/polarisedlight/impl.same", "loop.example/polarisedlight/impl.unit"], fn := fun _ => fun
  | [d, g1, g2, g3, g4] => { results := [.lit (.bool false)], args := [d], vars := [g1, g2, g3, g4] }
  | _ => none }
def FnReflectedWrongFalsely : Prop := fnReflectedRow.holds Tryd.pinned (OpenSpec.ofChange fnReflectedWrong)

/-- 'laws.FnPassing': WHATEVER THE INPUT: true; the input reads as it did. -/
def fnPassingSpec : ChangeSpec := { name := "fnPassing", vars := ["loop.example/polarisedlight/impl.one", "loop.example/polarisedlight/impl.zero", "loop.example/polarisedlight/impl.same", "loop.example/polarisedlight/impl.unit"], fn := fun _ => fun
  | [d, g1, g2, g3, g4] => { results := [.lit (.bool true)], args := [d], vars := [g1, g2, g3, g4] }
  | _ => none }
def fnPassingRow : OpenClaim := { program := "ytmciikkpfafncaadoor", sum := "f8830e31dfe9fcbc264c330ca434878b002a6dea206a2fe92b5f9463568739c8", func := "loop.example/polarisedlight/laws.FnPassing", spec := "fnPassing", unfollowed := true, recurses := true, named := ["loop.example/polarisedlight/impl.one", "loop.example/polarisedlight/impl.zero", "loop.example/polarisedlight/impl.same", "loop.example/polarisedlight/impl.unit"], apart := false, laid := [("loop.example/polarisedlight/impl.zero", laid_loop_example_polarisedlight_impl_zero), ("loop.example/polarisedlight/impl.one", laid_loop_example_polarisedlight_impl_one), ("loop.example/polarisedlight/impl.unit", laid_loop_example_polarisedlight_impl_unit), ("loop.example/polarisedlight/impl.same", laid_loop_example_polarisedlight_impl_same)] }
def FnPassingSaid : Prop := fnPassingRow.holds Tryd.pinned (OpenSpec.ofChange fnPassingSpec)

/-- ITS FALSE NEIGHBOUR: 'it returns false'. Refute it at one input. -/
def fnPassingWrong : ChangeSpec := { name := "fnPassing", vars := ["loop.example/polarisedlight/impl.one", "loop.example/polarisedlight/impl.zero", "loop.example/polarisedlight/impl.same", "loop.example/polarisedlight/impl.unit"], fn := fun _ => fun
  | [d, g1, g2, g3, g4] => { results := [.lit (.bool false)], args := [d], vars := [g1, g2, g3, g4] }
  | _ => none }
def FnPassingWrongFalsely : Prop := fnPassingRow.holds Tryd.pinned (OpenSpec.ofChange fnPassingWrong)

/-- 'laws.FnFilmSame': WHATEVER THE INPUT: true; the input reads as it did. -/
def fnFilmSameSpec : ChangeSpec := { name := "fnFilmSame", vars := ["loop.example/polarisedlight/impl.same", "loop.example/polarisedlight/impl.zero", "loop.example/polarisedlight/impl.unit", "loop.example/polarisedlight/impl.one"], fn := fun _ => fun
  | [d, g1, g2, g3, g4] => { results := [.lit (.bool true)], args := [d], vars := [g1, g2, g3, g4] }
  | _ => none }
def fnFilmSameRow : OpenClaim := { program := "ytmciikkpfafncaadoor", sum := "f8830e31dfe9fcbc264c330ca434878b002a6dea206a2fe92b5f9463568739c8", func := "loop.example/polarisedlight/laws.FnFilmSame", spec := "fnFilmSame", unfollowed := true, recurses := true, named := ["loop.example/polarisedlight/impl.same", "loop.example/polarisedlight/impl.zero", "loop.example/polarisedlight/impl.unit", "loop.example/polarisedlight/impl.one"], apart := false, laid := [("loop.example/polarisedlight/impl.zero", laid_loop_example_polarisedlight_impl_zero), ("loop.example/polarisedlight/impl.one", laid_loop_example_polarisedlight_impl_one), ("loop.example/polarisedlight/impl.unit", laid_loop_example_polarisedlight_impl_unit), ("loop.example/polarisedlight/impl.same", laid_loop_example_polarisedlight_impl_same)] }
def FnFilmSameSaid : Prop := fnFilmSameRow.holds Tryd.pinned (OpenSpec.ofChange fnFilmSameSpec)

/-- ITS FALSE NEIGHBOUR: 'it returns false'. Refute it at one input. -/
def fnFilmSameWrong : ChangeSpec := { name := "fnFilmSame", vars := ["loop.example/polarisedlight/impl.same", "loop.example/polarisedlight/impl.zero", "loop.example/polarisedlight/impl.unit", "loop.example/polarisedlight/impl.one"], fn := fun _ => fun
  | [d, g1, g2, g3, g4] => { results := [.lit (.bool false)], args := [d], vars := [g1, g2, g3, g4] }
  | _ => none }
def FnFilmSameWrongFalsely : Prop := fnFilmSameRow.holds Tryd.pinned (OpenSpec.ofChange fnFilmSameWrong)

/-- 'laws.FnExactFilmPowers': WHATEVER THE INPUT: true; the input reads as it did. -/
def fnExactFilmPowersSpec : ChangeSpec := { name := "fnExactFilmPowers", vars := ["loop.example/polarisedlight/impl.one", "loop.example/polarisedlight/impl.zero", "loop.example/polarisedlight/impl.same", "loop.example/polarisedlight/impl.unit"], fn := fun _ => fun
  | [d1, d2, d3, g1, g2, g3, g4] => { results := [.lit (.bool true)], args := [d1, d2, d3], vars := [g1, g2, g3, g4] }
  | _ => none }
def fnExactFilmPowersRow : OpenClaim := { program := "ytmciikkpfafncaadoor", sum := "f8830e31dfe9fcbc264c330ca434878b002a6dea206a2fe92b5f9463568739c8", func := "loop.example/polarisedlight/laws.FnExactFilmPowers", spec := "fnExactFilmPowers", unfollowed := true, recurses := true, named := ["loop.example/polarisedlight/impl.one", "loop.example/polarisedlight/impl.zero", "loop.example/polarisedlight/impl.same", "loop.example/polarisedlight/impl.unit"], apart := false, laid := [("loop.example/polarisedlight/impl.zero", laid_loop_example_polarisedlight_impl_zero), ("loop.example/polarisedlight/impl.one", laid_loop_example_polarisedlight_impl_one), ("loop.example/polarisedlight/impl.unit", laid_loop_example_polarisedlight_impl_unit), ("loop.example/polarisedlight/impl.same", laid_loop_example_polarisedlight_impl_same)] }
def FnExactFilmPowersSaid : Prop := fnExactFilmPowersRow.holds Tryd.pinned (OpenSpec.ofChange fnExactFilmPowersSpec)

/-- ITS FALSE NEIGHBOUR: 'it returns false'. Refute it at one input. -/
def fnExactFilmPowersWrong : ChangeSpec := { name := "fnExactFilmPowers", vars := ["loop.example/polarisedlight/impl.one", "loop.example/polarisedlight/impl.zero", "loop.example/polarisedlight/impl.same", "loop.example/polarisedlight/impl.unit"], fn := fun _ => fun
  | [d1, d2, d3, g1, g2, g3, g4] => { results := [.lit (.bool false)], args := [d1, d2, d3], vars := [g1, g2, g3, g4] }
  | _ => none }
def FnExactFilmPowersWrongFalsely : Prop := fnExactFilmPowersRow.holds Tryd.pinned (OpenSpec.ofChange fnExactFilmPowersWrong)

/-- 'laws.FnPowers': WHATEVER THE INPUT: true; the input reads as it did. -/
def fnPowersSpec : ChangeSpec := { name := "fnPowers", vars := ["loop.example/polarisedlight/impl.one", "loop.example/polarisedlight/impl.zero", "loop.example/polarisedlight/impl.same", "loop.example/polarisedlight/impl.unit"], fn := fun _ => fun
  | [d, g1, g2, g3, g4] => { results := [.lit (.bool true)], args := [d], vars := [g1, g2, g3, g4] }
  | _ => none }
def fnPowersRow : OpenClaim := { program := "ytmciikkpfafncaadoor", sum := "f8830e31dfe9fcbc264c330ca434878b002a6dea206a2fe92b5f9463568739c8", func := "loop.example/polarisedlight/laws.FnPowers", spec := "fnPowers", unfollowed := true, recurses := true, named := ["loop.example/polarisedlight/impl.one", "loop.example/polarisedlight/impl.zero", "loop.example/polarisedlight/impl.same", "loop.example/polarisedlight/impl.unit"], apart := false, laid := [("loop.example/polarisedlight/impl.zero", laid_loop_example_polarisedlight_impl_zero), ("loop.example/polarisedlight/impl.one", laid_loop_example_polarisedlight_impl_one), ("loop.example/polarisedlight/impl.unit", laid_loop_example_polarisedlight_impl_unit), ("loop.example/polarisedlight/impl.same", laid_loop_example_polarisedlight_impl_same)] }
def FnPowersSaid : Prop := fnPowersRow.holds Tryd.pinned (OpenSpec.ofChange fnPowersSpec)

/-- ITS FALSE NEIGHBOUR: 'it returns false'. Refute it at one input. -/
def fnPowersWrong : ChangeSpec := { name := "fnPowers", vars := ["loop.example/polarisedlight/impl.one", "loop.example/polarisedlight/impl.zero", "loop.example/polarisedlight/impl.same", "loop.example/polarisedlight/impl.unit"], fn := fun _ => fun
  | [d, g1, g2, g3, g4] => { results := [.lit (.bool false)], args := [d], vars := [g1, g2, g3, g4] }
  | _ => none }
def FnPowersWrongFalsely : Prop := fnPowersRow.holds Tryd.pinned (OpenSpec.ofChange fnPowersWrong)

/- THE SECOND FORM. 'bulk': how many values and letters a reading holds, each counted each time it is reached (what is shared counts as often as it is met; a slice's spare places count too). A statement '..UptoSaid' is the law's where the arguments, and the package variables that the reading takes, are together of bulk at most 1048576: NARROWER than '..Said'. Prove '..Said' where nothing that the law and all that it calls make is longer than what came in: it says more and counts as full. Else prove '..UptoSaid'. A law counts once. -/
mutual
def uptoBulk {H : Type} : DataW H → Nat
  | .lit (.string bytes) => bytes.length + 1
  | .lit _ => 1
  | .nil => 1
  | .ptr d => uptoBulk d + 1
  | .slice elems spare => uptoBulkAll elems + uptoBulkAll spare + 1
  | .agg parts => uptoBulkAll parts + 1
  | .iface _ d => uptoBulk d + 1
  | .map entries => uptoBulkEntries entries + 1
  | .held _ => 1
def uptoBulkAll {H : Type} : List (DataW H) → Nat
  | [] => 0
  | d :: r => uptoBulk d + uptoBulkAll r
def uptoBulkEntries {H : Type} : List (Lit × DataW H) → Nat
  | [] => 0
  | x :: r => uptoBulkEntry x + uptoBulkEntries r
def uptoBulkEntry {H : Type} : Lit × DataW H → Nat
  | (.string bytes, d) => bytes.length + uptoBulk d + 1
  | (_, d) => uptoBulk d + 1
 end
def uptoSmall : (H : Type) → List (DataW H) → Bool := fun _ ds => decide (uptoBulkAll ds ≤ 1048576)
def OpenSpec.upto (s : _root_.Go.ChangeSpec) : _root_.Go.OpenSpec := { _root_.Go.OpenSpec.ofChange s with cond := some uptoSmall }

/-- 'laws.FnExactFilmSame', WHERE WHAT IT READS IS OF BULK AT MOST 1048576: true; the input reads as it did. -/
def fnExactFilmSameUptoRow : OpenClaim := { program := "ytmciikkpfafncaadoor", sum := "f8830e31dfe9fcbc264c330ca434878b002a6dea206a2fe92b5f9463568739c8", func := "loop.example/polarisedlight/laws.FnExactFilmSame", spec := "fnExactFilmSame", unfollowed := true, recurses := true, named := ["loop.example/polarisedlight/impl.same", "loop.example/polarisedlight/impl.zero", "loop.example/polarisedlight/impl.unit"], apart := false, laid := [("loop.example/polarisedlight/impl.zero", laid_loop_example_polarisedlight_impl_zero), ("loop.example/polarisedlight/impl.unit", laid_loop_example_polarisedlight_impl_unit), ("loop.example/polarisedlight/impl.same", laid_loop_example_polarisedlight_impl_same)], narrowed := true }
def FnExactFilmSameUptoSaid : Prop := fnExactFilmSameUptoRow.holds Tryd.pinned (OpenSpec.upto fnExactFilmSameSpec)

/-- 'laws.FnExactFilmPassing', WHERE WHAT IT READS IS OF BULK AT MOST 1048576: true; the input reads as it did. -/
def fnExactFilmPassingUptoRow : OpenClaim := { program := "ytmciikkpfafncaadoor", sum := "f8830e31dfe9fcbc264c330ca434878b002a6dea206a2fe92b5f9463568739c8", func := "loop.example/polarisedlight/laws.FnExactFilmPassing", spec := "fnExactFilmPassing", unfollowed := true, recurses := true, named := ["loop.example/polarisedlight/impl.one", "loop.example/polarisedlight/impl.zero", "loop.example/polarisedlight/impl.same", "loop.example/polarisedlight/impl.unit"], apart := false, laid := [("loop.example/polarisedlight/impl.zero", laid_loop_example_polarisedlight_impl_zero), ("loop.example/polarisedlight/impl.one", laid_loop_example_polarisedlight_impl_one), ("loop.example/polarisedlight/impl.unit", laid_loop_example_polarisedlight_impl_unit), ("loop.example/polarisedlight/impl.same", laid_loop_example_polarisedlight_impl_same)], narrowed := true }
def FnExactFilmPassingUptoSaid : Prop := fnExactFilmPassingUptoRow.holds Tryd.pinned (OpenSpec.upto fnExactFilmPassingSpec)

/-- 'laws.FnExactFilmReflected', WHERE WHAT IT READS IS OF BULK AT MOST 1048576: true; the input reads as it did. -/
def fnExactFilmReflectedUptoRow : OpenClaim := { program := "ytmciikkpfafncaadoor", sum := "f8830e31dfe9fcbc264c330ca434878b002a6dea206a2fe92b5f9463568739c8", func := "loop.example/polarisedlight/laws.FnExactFilmReflected", spec := "fnExactFilmReflected", unfollowed := true, recurses := true, named := ["loop.example/polarisedlight/impl.one", "loop.example/polarisedlight/impl.zero", "loop.example/polarisedlight/impl.same", "loop.example/polarisedlight/impl.unit"], apart := false, laid := [("loop.example/polarisedlight/impl.zero", laid_loop_example_polarisedlight_impl_zero), ("loop.example/polarisedlight/impl.one", laid_loop_example_polarisedlight_impl_one), ("loop.example/polarisedlight/impl.unit", laid_loop_example_polarisedlight_impl_unit), ("loop.example/polarisedlight/impl.same", laid_loop_example_polarisedlight_impl_same)], narrowed := true }
def FnExactFilmReflectedUptoSaid : Prop := fnExactFilmReflectedUptoRow.holds Tryd.pinned (OpenSpec.upto fnExactFilmReflectedSpec)

/-- 'laws.FnReflected', WHERE WHAT IT READS IS OF BULK AT MOST 1048576: true; the input reads as it did. -/
def fnReflectedUptoRow : OpenClaim := { program := "ytmciikkpfafncaadoor", sum := "f8830e31dfe9fcbc264c330ca434878b002a6dea206a2fe92b5f9463568739c8", func := "loop.example/polarisedlight/laws.FnReflected", spec := "fnReflected", unfollowed := true, recurses := true, named := ["loop.example/polarisedlight/impl.one", "loop.example/polarisedlight/impl.zero", "loop.example/polarisedlight/impl.same", "loop.example/polarisedlight/impl.unit"], apart := false, laid := [("loop.example/polarisedlight/impl.zero", laid_loop_example_polarisedlight_impl_zero), ("loop.example/polarisedlight/impl.one", laid_loop_example_polarisedlight_impl_one), ("loop.example/polarisedlight/impl.unit", laid_loop_example_polarisedlight_impl_unit), ("loop.example/polarisedlight/impl.same", laid_loop_example_polarisedlight_impl_same)], narrowed := true }
def FnReflectedUptoSaid : Prop := fnReflectedUptoRow.holds Tryd.pinned (OpenSpec.upto fnReflectedSpec)

/-- 'laws.FnPassing', WHERE WHAT IT READS IS OF BULK AT MOST 1048576: true; the input reads as it did. -/
def fnPassingUptoRow : OpenClaim := { program := "ytmciikkpfafncaadoor", sum := "f8830e31dfe9fcbc264c330ca434878b002a6dea206a2fe92b5f9463568739c8", func := "loop.example/polarisedlight/laws.FnPassing", spec := "fnPassing", unfollowed := true, recurses := true, named := ["loop.example/polarisedlight/impl.one", "loop.example/polarisedlight/impl.zero", "loop.example/polarisedlight/impl.same", "loop.example/polarisedlight/impl.unit"], apart := false, laid := [("loop.example/polarisedlight/impl.zero", laid_loop_example_polarisedlight_impl_zero), ("loop.example/polarisedlight/impl.one", laid_loop_example_polarisedlight_impl_one), ("loop.example/polarisedlight/impl.unit", laid_loop_example_polarisedlight_impl_unit), ("loop.example/polarisedlight/impl.same", laid_loop_example_polarisedlight_impl_same)], narrowed := true }
def FnPassingUptoSaid : Prop := fnPassingUptoRow.holds Tryd.pinned (OpenSpec.upto fnPassingSpec)

/-- 'laws.FnFilmSame', WHERE WHAT IT READS IS OF BULK AT MOST 1048576: true; the input reads as it did. -/
def fnFilmSameUptoRow : OpenClaim := { program := "ytmciikkpfafncaadoor", sum := "f8830e31dfe9fcbc264c330ca434878b002a6dea206a2fe92b5f9463568739c8", func := "loop.example/polarisedlight/laws.FnFilmSame", spec := "fnFilmSame", unfollowed := true, recurses := true, named := ["loop.example/polarisedlight/impl.same", "loop.example/polarisedlight/impl.zero", "loop.example/polarisedlight/impl.unit", "loop.example/polarisedlight/impl.one"], apart := false, laid := [("loop.example/polarisedlight/impl.zero", laid_loop_example_polarisedlight_impl_zero), ("loop.example/polarisedlight/impl.one", laid_loop_example_polarisedlight_impl_one), ("loop.example/polarisedlight/impl.unit", laid_loop_example_polarisedlight_impl_unit), ("loop.example/polarisedlight/impl.same", laid_loop_example_polarisedlight_impl_same)], narrowed := true }
def FnFilmSameUptoSaid : Prop := fnFilmSameUptoRow.holds Tryd.pinned (OpenSpec.upto fnFilmSameSpec)

/-- 'laws.FnExactFilmPowers', WHERE WHAT IT READS IS OF BULK AT MOST 1048576: true; the input reads as it did. -/
def fnExactFilmPowersUptoRow : OpenClaim := { program := "ytmciikkpfafncaadoor", sum := "f8830e31dfe9fcbc264c330ca434878b002a6dea206a2fe92b5f9463568739c8", func := "loop.example/polarisedlight/laws.FnExactFilmPowers", spec := "fnExactFilmPowers", unfollowed := true, recurses := true, named := ["loop.example/polarisedlight/impl.one", "loop.example/polarisedlight/impl.zero", "loop.example/polarisedlight/impl.same", "loop.example/polarisedlight/impl.unit"], apart := false, laid := [("loop.example/polarisedlight/impl.zero", laid_loop_example_polarisedlight_impl_zero), ("loop.example/polarisedlight/impl.one", laid_loop_example_polarisedlight_impl_one), ("loop.example/polarisedlight/impl.unit", laid_loop_example_polarisedlight_impl_unit), ("loop.example/polarisedlight/impl.same", laid_loop_example_polarisedlight_impl_same)], narrowed := true }
def FnExactFilmPowersUptoSaid : Prop := fnExactFilmPowersUptoRow.holds Tryd.pinned (OpenSpec.upto fnExactFilmPowersSpec)

/-- 'laws.FnPowers', WHERE WHAT IT READS IS OF BULK AT MOST 1048576: true; the input reads as it did. -/
def fnPowersUptoRow : OpenClaim := { program := "ytmciikkpfafncaadoor", sum := "f8830e31dfe9fcbc264c330ca434878b002a6dea206a2fe92b5f9463568739c8", func := "loop.example/polarisedlight/laws.FnPowers", spec := "fnPowers", unfollowed := true, recurses := true, named := ["loop.example/polarisedlight/impl.one", "loop.example/polarisedlight/impl.zero", "loop.example/polarisedlight/impl.same", "loop.example/polarisedlight/impl.unit"], apart := false, laid := [("loop.example/polarisedlight/impl.zero", laid_loop_example_polarisedlight_impl_zero), ("loop.example/polarisedlight/impl.one", laid_loop_example_polarisedlight_impl_one), ("loop.example/polarisedlight/impl.unit", laid_loop_example_polarisedlight_impl_unit), ("loop.example/polarisedlight/impl.same", laid_loop_example_polarisedlight_impl_same)], narrowed := true }
def FnPowersUptoSaid : Prop := fnPowersUptoRow.holds Tryd.pinned (OpenSpec.upto fnPowersSpec)

end Rows
end Go.Proofs.YtmciikkpfafncaaDoor

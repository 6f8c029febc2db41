/-
  NARROWER THAN 'FOR EVERY INPUT', by the rows' own cells (each row's printed sentence says how): FnExactTableKeeps: laid · FnFade: laid · FnExactTableEnergy: laid · FnExactTableOf: laid · FnTable: laid · FnTableOf: laid · FnEnergy: laid · FnKeeps: laid.
  DERIVED. THE GIVEN ROWS OF THIS SEAT. 8 by the template 'for every input the law returns true; each argument reads behind the call as it read before'; 0 by the template 'total and deterministic' (their statements: YtnlgkipjpbdodaaDoorTotals.lean).
  GIVEN WITH THE SEED: the statements are not yours to turn. If you find one false, say at which input.
  Laid BY PROGRAM, IN A SANDBOX (cutbox-rows.mjs): the forced cells as the released guide's own fill.sh prints them over the translation 666ea488a3d7c0d6… (all of the seat's roots in one cut). By AI agents, Wed Nov 11 2026. No macro, syntax, notation, axiom, sorry.
-/
import Derived.Test.YtnlgkipjpbdodaaDoorChecked
import GoSem.Claim
import GoSem.ClaimJoined
import GoSem.ClaimMapViews
import Derived.JoinedTies
import Derived.KernelRfl
namespace Go.Proofs.YtnlgkipjpbdodaaDoor
/- THE CELL 'sum', in the pinned program and in every row, IS THE sha256 OF THE DUMP (.gsa) THAT YtnlgkipjpbdodaaDoorProg.lean LOADS. Nothing in Lean hashes anything: it is a label: what it is worth is what the hold of that sum in a sandbox is worth. -/
noncomputable def Tryd.pinned : Pinned := { name := "ytnlgkipjpbdodaadoor", sum := "666ea488a3d7c0d6473a2d28221a1afc76f2e5362c94855e5671e9397edfd369", checked := Tryd.checked }
namespace Rows
def none {H : Type} : Left H := { results := [], args := [] }

/- WHAT THE LISTED PACKAGE-LEVEL VARIABLES READ AS WHEN THE CALL BEGINS. Each datum BY PROGRAM (the guide's laid-datum.mjs) off the statement by which the dump's own 'gosem.cut.vars' lays the variable. In a bare row this is a premise. The card (YtnlgkipjpbdodaaDoorCards.lean) ties it to the program's text. -/
def laid_loop_example_polarisedlight_impl_zero {H : Type} : DataW H := .agg [.lit (.int .i64 0), .lit (.int .i64 0), .lit (.int .i64 1)]
def laid_loop_example_polarisedlight_impl_one {H : Type} : DataW H := .agg [.lit (.int .i64 1), .lit (.int .i64 0), .lit (.int .i64 1)]

/-- 'laws.FnExactTableKeeps': WHATEVER THE INPUT: true; the input reads as it did. -/
def fnExactTableKeepsSpec : ChangeSpec := { name := "fnExactTableKeeps", vars := ["loop.example/polarisedlight/impl.zero", "loop.example/polarisedlight/impl.one"], fn := fun _ => fun
  | [d, g1, g2] => { results := [.lit (.bool true)], args := [d], vars := [g1, g2] }
  | _ => none }
def fnExactTableKeepsRow : OpenClaim := { program := "ytnlgkipjpbdodaadoor", sum := "666ea488a3d7c0d6473a2d28221a1afc76f2e5362c94855e5671e9397edfd369", func := "loop.example/polarisedlight/laws.FnExactTableKeeps", spec := "fnExactTableKeeps", named := ["loop.example/polarisedlight/impl.zero", "loop.example/polarisedlight/impl.one"], apart := false, laid := [("loop.example/polarisedlight/impl.zero", laid_loop_example_polarisedlight_impl_zero), ("loop.example/polarisedlight/impl.one", laid_loop_example_polarisedlight_impl_one)] }
def FnExactTableKeepsSaid : Prop := fnExactTableKeepsRow.holds Tryd.pinned (OpenSpec.ofChange fnExactTableKeepsSpec)

/-- ITS FALSE NEIGHBOUR: 'it returns false'. Refute it at one input. -/
def fnExactTableKeepsWrong : ChangeSpec := { name := "fnExactTableKeeps", vars := ["loop.example/polarisedlight/impl.zero", "loop.example/polarisedlight/impl.one"], fn := fun _ => fun
  | [d, g1, g2] => { results := [.lit (.bool false)], args := [d], vars := [g1, g2] }
  | _ => none }
def FnExactTableKeepsWrongFalsely : Prop := fnExactTableKeepsRow.holds Tryd.pinned (OpenSpec.ofChange fnExactTableKeepsWrong)

/-- 'laws.FnFade': WHATEVER THE INPUT: true; the input reads as it did. -/
def fnFadeSpec : ChangeSpec := { name := "fnFade", vars := ["loop.example/polarisedlight/impl.one", "loop.example/polarisedlight/impl.zero"], fn := fun _ => fun
  | [d, g1, g2] => { results := [.lit (.bool true)], args := [d], vars := [g1, g2] }
  | _ => none }
def fnFadeRow : OpenClaim := { program := "ytnlgkipjpbdodaadoor", sum := "666ea488a3d7c0d6473a2d28221a1afc76f2e5362c94855e5671e9397edfd369", func := "loop.example/polarisedlight/laws.FnFade", spec := "fnFade", named := ["loop.example/polarisedlight/impl.one", "loop.example/polarisedlight/impl.zero"], apart := false, laid := [("loop.example/polarisedlight/impl.zero", laid_loop_example_polarisedlight_impl_zero), ("loop.example/polarisedlight/impl.one", laid_loop_example_polarisedlight_impl_one)] }
def FnFadeSaid : Prop := fnFadeRow.holds Tryd.pinned (OpenSpec.ofChange fnFadeSpec)

/-- ITS FALSE NEIGHBOUR: 'it returns false'. Refute it at one input. -/
def fnFadeWrong : ChangeSpec := { name := "fnFade", vars := ["loop.example/polarisedlight/impl.one", "loop.example/polarisedlight/impl.zero"], fn := fun _ => fun
  | [d, g1, g2] => { results := [.lit (.bool false)], args := [d], vars := [g1, g2] }
  | _ => none }
def FnFadeWrongFalsely : Prop := fnFadeRow.holds Tryd.pinned (OpenSpec.ofChange fnFadeWrong)

/-- 'laws.FnExactTableEnergy': WHATEVER THE INPUT: true; the input reads as it did. -/
def fnExactTableEnergySpec : ChangeSpec := { name := "fnExactTableEnergy", vars := ["loop.example/polarisedlight/impl.one", "loop.example/polarisedlight/impl.zero"], fn := fun _ => fun
  | [d, g1, g2] => { results := [.lit (.bool true)], args := [d], vars := [g1, g2] }
  | _ => none }
def fnExactTableEnergyRow : OpenClaim := { program := "ytnlgkipjpbdodaadoor", sum := "666ea488a3d7c0d6473a2d28221a1afc76f2e5362c94855e5671e9397edfd369", func := "loop.example/polarisedlight/laws.FnExactTableEnergy", spec := "fnExactTableEnergy", named := ["loop.example/polarisedlight/impl.one", "loop.example/polarisedlight/impl.zero"], apart := false, laid := [("loop.example/polarisedlight/impl.zero", laid_loop_example_polarisedlight_impl_zero), ("loop.example/polarisedlight/impl.one", laid_loop_example_polarisedlight_impl_one)] }
def FnExactTableEnergySaid : Prop := fnExactTableEnergyRow.holds Tryd.pinned (OpenSpec.ofChange fnExactTableEnergySpec)

/-- ITS FALSE NEIGHBOUR: 'it returns false'. Refute it at one input. -/
def fnExactTableEnergyWrong : ChangeSpec := { name := "fnExactTableEnergy", vars := ["loop.example/polarisedlight/impl.one", "loop.example/polarisedlight/impl.zero"], fn := fun _ => fun
  | [d, g1, g2] => { results := [.lit (.bool false)], args := [d], vars := [g1, g2] }
  | _ => none }
def FnExactTableEnergyWrongFalsely : Prop := fnExactTableEnergyRow.holds Tryd.pinned (OpenSpec.ofChange fnExactTableEnergyWrong)

/-- 'laws.FnExactTableOf': WHATEVER THE INPUT: true; the input reads as it did. -/
def fnExactTableOfSpec : ChangeSpec := { name := "fnExactTableOf", vars := ["loop.example/polarisedlight/impl.zero"], fn := fun _ => fun
  | [d, g1] => { results := [.lit (.bool true)], args := [d], vars := [g1] }
  | _ => none }
def fnExactTableOfRow : OpenClaim := { program := "ytnlgkipjpbdodaadoor", sum := "666ea488a3d7c0d6473a2d28221a1afc76f2e5362c94855e5671e9397edfd369", func := "loop.example/polarisedlight/laws.FnExactTableOf", spec := "fnExactTableOf", unfollowed := true, recurses := true, named := ["loop.example/polarisedlight/impl.zero"], apart := false, laid := [("loop.example/polarisedlight/impl.zero", laid_loop_example_polarisedlight_impl_zero)] }
def FnExactTableOfSaid : Prop := fnExactTableOfRow.holds Tryd.pinned (OpenSpec.ofChange fnExactTableOfSpec)

/-- ITS FALSE NEIGHBOUR: 'it returns false'. Refute it at one input. -/
def fnExactTableOfWrong : ChangeSpec := { name := "fnExactTableOf", vars := ["loop.example/polarisedlight/impl.zero"], fn := fun _ => fun
  | [d, g1] => { results := [.lit (.bool false)], args := [d], vars := [g1] }
  | _ => none }
def FnExactTableOfWrongFalsely : Prop := fnExactTableOfRow.holds Tryd.pinned (OpenSpec.ofChange fnExactTableOfWrong)

/-- 'laws.FnTable': WHATEVER THE INPUT: true; the input reads as it did. -/
def fnTableSpec : ChangeSpec := { name := "fnTable", vars := ["loop.example/polarisedlight/impl.zero"], fn := fun _ => fun
  | [d, g1] => { results := [.lit (.bool true)], args := [d], vars := [g1] }
  | _ => none }
def fnTableRow : OpenClaim := { program := "ytnlgkipjpbdodaadoor", sum := "666ea488a3d7c0d6473a2d28221a1afc76f2e5362c94855e5671e9397edfd369", func := "loop.example/polarisedlight/laws.FnTable", spec := "fnTable", named := ["loop.example/polarisedlight/impl.zero"], apart := false, laid := [("loop.example/polarisedlight/impl.zero", laid_loop_example_polarisedlight_impl_zero)] }
def FnTableSaid : Prop := fnTableRow.holds Tryd.pinned (OpenSpec.ofChange fnTableSpec)

/-- ITS FALSE NEIGHBOUR: 'it returns false'. Refute it at one input. -/
def fnTableWrong : ChangeSpec := { name := "fnTable", vars := ["loop.example/polarisedlight/impl.zero"], fn := fun _ => fun
  | [d, g1] => { results := [.lit (.bool false)], args := [d], vars := [g1] }
  | _ => none }
def FnTableWrongFalsely : Prop := fnTableRow.holds Tryd.pinned (OpenSpec.ofChange fnTableWrong)

/-- 'laws.FnTableOf': WHATEVER THE INPUT: true; the input reads as it did. -/
def fnTableOfSpec : ChangeSpec := { name := "fnTableOf", vars := ["loop.example/polarisedlight/impl.zero"], fn := fun _ => fun
  | [d, g1] => { results := [.lit (.bool true)], args := [d], vars := [g1] }
  | _ => none }
def fnTableOfRow : OpenClaim := { program := "ytnlgkipjpbdodaadoor", sum := "666ea488a3d7c0d6473a2d28221a1afc76f2e5362c94855e5671e9397edfd369", func := "loop.example/polarisedlight/laws.FnTableOf", spec := "fnTableOf", unfollowed := true, recurses := true, named := ["loop.example/polarisedlight/impl.zero"], apart := false, laid := [("loop.example/polarisedlight/impl.zero", laid_loop_example_polarisedlight_impl_zero)] }
def FnTableOfSaid : Prop := fnTableOfRow.holds Tryd.pinned (OpenSpec.ofChange fnTableOfSpec)

/-- ITS FALSE NEIGHBOUR: 'it returns false'. Refute it at one input. -/
def fnTableOfWrong : ChangeSpec := { name := "fnTableOf", vars := ["loop.example/polarisedlight/impl.zero"], fn := fun _ => fun
  | [d, g1] => { results := [.lit (.bool false)], args := [d], vars := [g1] }
  | _ => none }
def FnTableOfWrongFalsely : Prop := fnTableOfRow.holds Tryd.pinned (OpenSpec.ofChange fnTableOfWrong)

/-- 'laws.FnEnergy': WHATEVER THE INPUT: true; the input reads as it did. -/
def fnEnergySpec : ChangeSpec := { name := "fnEnergy", vars := ["loop.example/polarisedlight/impl.one", "loop.example/polarisedlight/impl.zero"], fn := fun _ => fun
  | [d, g1, g2] => { results := [.lit (.bool true)], args := [d], vars := [g1, g2] }
  | _ => none }
def fnEnergyRow : OpenClaim := { program := "ytnlgkipjpbdodaadoor", sum := "666ea488a3d7c0d6473a2d28221a1afc76f2e5362c94855e5671e9397edfd369", func := "loop.example/polarisedlight/laws.FnEnergy", spec := "fnEnergy", named := ["loop.example/polarisedlight/impl.one", "loop.example/polarisedlight/impl.zero"], apart := false, laid := [("loop.example/polarisedlight/impl.zero", laid_loop_example_polarisedlight_impl_zero), ("loop.example/polarisedlight/impl.one", laid_loop_example_polarisedlight_impl_one)] }
def FnEnergySaid : Prop := fnEnergyRow.holds Tryd.pinned (OpenSpec.ofChange fnEnergySpec)

/-- ITS FALSE NEIGHBOUR: 'it returns false'. Refute it at one input. -/
def fnEnergyWrong : ChangeSpec := { name := "fnEnergy", vars := ["loop.example/polarisedlight/impl.one", "loop.example/polarisedlight/impl.zero"], fn := fun _ => fun
  | [d, g1, g2] => { results := [.lit (.bool false)], args := [d], vars := [g1, g2] }
  | _ => none }
def FnEnergyWrongFalsely : Prop := fnEnergyRow.holds Tryd.pinned (OpenSpec.ofChange fnEnergyWrong)

/-- 'laws.FnKeeps': WHATEVER THE INPUT: true; the input reads as it did. -/
def fnKeepsSpec : ChangeSpec := { name := "fnKeeps", vars := ["loop.example/polarisedlight/impl.zero", "loop.example/polarisedlight/impl.one"], fn := fun _ => fun
  | [d, g1, g2] => { results := [.lit (.bool true)], args := [d], vars := [g1, g2] }
  | _ => none }
def fnKeepsRow : OpenClaim := { program := "ytnlgkipjpbdodaadoor", sum := "666ea488a3d7c0d6473a2d28221a1afc76f2e5362c94855e5671e9397edfd369", func := "loop.example/polarisedlight/laws.FnKeeps", spec := "fnKeeps", named := ["loop.example/polarisedlight/impl.zero", "loop.example/polarisedlight/impl.one"], apart := false, laid := [("loop.example/polarisedlight/impl.zero", laid_loop_example_polarisedlight_impl_zero), ("loop.example/polarisedlight/impl.one", laid_loop_example_polarisedlight_impl_one)] }
def FnKeepsSaid : Prop := fnKeepsRow.holds Tryd.pinned (OpenSpec.ofChange fnKeepsSpec)

/-- ITS FALSE NEIGHBOUR: 'it returns false'. Refute it at one input. -/
def fnKeepsWrong : ChangeSpec := { name := "fnKeeps", vars := ["loop.example/polarisedlight/impl.zero", "loop.example/polarisedlight/impl.one"], fn := fun _ => fun
  | [d, g1, g2] => { results := [.lit (.bool false)], args := [d], vars := [g1, g2] }
  | _ => none }
def FnKeepsWrongFalsely : Prop := fnKeepsRow.holds Tryd.pinned (OpenSpec.ofChange fnKeepsWrong)

/- THE SECOND FORM. 'bulk': how many values and letters a reading holds, each counted each time it is reached (what is shared counts as often as it is met; a slice's spare places count too). A statement '..UptoSaid' is the law's where the arguments, and the package variables that the reading takes, are together of bulk at most 1048576: NARROWER than '..Said'. Prove '..Said' where nothing that the law and all that it calls make is longer than what came in: it says more and counts as full. Else prove '..UptoSaid'. A law counts once. -/
mutual
def uptoBulk {H : Type} : DataW H → Nat
  | .lit (.string bytes) => bytes.length + 1
  | .lit _ => 1
  | .nil => 1
  | .ptr d => uptoBulk d + 1
  | .slice elems spare => uptoBulkAll elems + uptoBulkAll spare + 1
  | .agg parts => uptoBulkAll parts + 1
  | .iface _ d => uptoBulk d + 1
  | .map entries => uptoBulkEntries entries + 1
  | .held _ => 1
def uptoBulkAll {H : Type} : List (DataW H) → Nat
  | [] => 0
  | d :: r => uptoBulk d + uptoBulkAll r
def uptoBulkEntries {H : Type} : List (Lit × DataW H) → Nat
  | [] => 0
  | x :: r => uptoBulkEntry x + uptoBulkEntries r
def uptoBulkEntry {H : Type} : Lit × DataW H → Nat
  | (.string bytes, d) => bytes.length + uptoBulk d + 1
  | (_, d) => uptoBulk d + 1
 end
def uptoSmall : (H : Type) → List (DataW H) → Bool := fun _ ds => decide (uptoBulkAll ds ≤ 1048576)
def OpenSpec.upto (s : _root_.Go.ChangeSpec) : _root_.Go.OpenSpec := { _root_.Go.OpenSpec.ofChange s with cond := some uptoSmall }

/-- 'laws.FnExactTableKeeps', WHERE WHAT IT READS IS OF BULK AT MOST 1048576: true; the input reads as it did. -/
def fnExactTableKeepsUptoRow : OpenClaim := { program := "ytnlgkipjpbdodaadoor", sum := "666ea488a3d7c0d6473a2d28221a1afc76f2e5362c94855e5671e9397edfd369", func := "loop.example/polarisedlight/laws.FnExactTableKeeps", spec := "fnExactTableKeeps", named := ["loop.example/polarisedlight/impl.zero", "loop.example/polarisedlight/impl.one"], apart := false, laid := [("loop.example/polarisedlight/impl.zero", laid_loop_example_polarisedlight_impl_zero), ("loop.example/polarisedlight/impl.one", laid_loop_example_polarisedlight_impl_one)], narrowed := true }
def FnExactTableKeepsUptoSaid : Prop := fnExactTableKeepsUptoRow.holds Tryd.pinned (OpenSpec.upto fnExactTableKeepsSpec)

/-- 'laws.FnFade', WHERE WHAT IT READS IS OF BULK AT MOST 1048576: true; the input reads as it did. -/
def fnFadeUptoRow : OpenClaim := { program := "ytnlgkipjpbdodaadoor", sum := "666ea488a3d7c0d6473a2d28221a1afc76f2e5362c94855e5671e9397edfd369", func := "loop.example/polarisedlight/laws.FnFade", spec := "fnFade", named := ["loop.example/polarisedlight/impl.one", "loop.example/polarisedlight/impl.zero"], apart := false, laid := [("loop.example/polarisedlight/impl.zero", laid_loop_example_polarisedlight_impl_zero), ("loop.example/polarisedlight/impl.one", laid_loop_example_polarisedlight_impl_one)], narrowed := true }
def FnFadeUptoSaid : Prop := fnFadeUptoRow.holds Tryd.pinned (OpenSpec.upto fnFadeSpec)

/-- 'laws.FnExactTableEnergy', WHERE WHAT IT READS IS OF BULK AT MOST 1048576: true; the input reads as it did. -/
def fnExactTableEnergyUptoRow : OpenClaim := { program := "ytnlgkipjpbdodaadoor", sum := "666ea488a3d7c0d6473a2d28221a1afc76f2e5362c94855e5671e9397edfd369", func := "loop.example/polarisedlight/laws.FnExactTableEnergy", spec := "fnExactTableEnergy", named := ["loop.example/polarisedlight/impl.one", "loop.example/polarisedlight/impl.zero"], apart := false, laid := [("loop.example/polarisedlight/impl.zero", laid_loop_example_polarisedlight_impl_zero), ("loop.example/polarisedlight/impl.one", laid_loop_example_polarisedlight_impl_one)], narrowed := true }
def FnExactTableEnergyUptoSaid : Prop := fnExactTableEnergyUptoRow.holds Tryd.pinned (OpenSpec.upto fnExactTableEnergySpec)

/-- 'laws.FnExactTableOf', WHERE WHAT IT READS IS OF BULK AT MOST 1048576: true; the input reads as it did. -/
def fnExactTableOfUptoRow : OpenClaim := { program := "ytnlgkipjpbdodaadoor", sum := "666ea488a3d7c0d6473a2d28221a1afc76f2e5362c94855e5671e9397edfd369", func := "loop.example/polarisedlight/laws.FnExactTableOf", spec := "fnExactTableOf", unfollowed := true, recurses := true, named := ["loop.example/polarisedlight/impl.zero"], apart := false, laid := [("loop.example/polarisedlight/impl.zero", laid_loop_example_polarisedlight_impl_zero)], narrowed := true }
def FnExactTableOfUptoSaid : Prop := fnExactTableOfUptoRow.holds Tryd.pinned (OpenSpec.upto fnExactTableOfSpec)

/-- 'laws.FnTable', WHERE WHAT IT READS IS OF BULK AT MOST 1048576: true; the input reads as it did. -/
def fnTableUptoRow : OpenClaim := { program := "ytnlgkipjpbdodaadoor", sum := "666ea488a3d7c0d6473a2d28221a1afc76f2e5362c94855e5671e9397edfd369", func := "loop.example/polarisedlight/laws.FnTable", spec := "fnTable", named := ["loop.example/polarisedlight/impl.zero"], apart := false, laid := [("loop.example/polarisedlight/impl.zero", laid_loop_example_polarisedlight_impl_zero)], narrowed := true }
def FnTableUptoSaid : Prop := fnTableUptoRow.holds Tryd.pinned (OpenSpec.upto fnTableSpec)

/-- 'laws.FnTableOf', WHERE WHAT IT READS IS OF BULK AT MOST 1048576: true; the input reads as it did. -/
def fnTableOfUptoRow : OpenClaim := { program := "ytnlgkipjpbdodaadoor", sum := "666ea488a3d7c0d6473a2d28221a1afc76f2e5362c94855e5671e9397edfd369", func := "loop.example/polarisedlight/laws.FnTableOf", spec := "fnTableOf", unfollowed := true, recurses := true, named := ["loop.example/polarisedlight/impl.zero"], apart := false, laid := [("loop.example/polarisedlight/impl.zero", laid_loop_example_polarisedlight_impl_zero)], narrowed := true }
def FnTableOfUptoSaid : Prop := fnTableOfUptoRow.holds Tryd.pinned (OpenSpec.upto fnTableOfSpec)

/-- 'laws.FnEnergy', WHERE WHAT IT READS IS OF BULK AT MOST 1048576: true; the input reads as it did. -/
def fnEnergyUptoRow : OpenClaim := { program := "ytnlgkipjpbdodaadoor", sum := "666ea488a3d7c0d6473a2d28221a1afc76f2e5362c94855e5671e9397edfd369", func := "loop.example/polarisedlight/laws.FnEnergy", spec := "fnEnergy", named := ["loop.example/polarisedlight/impl.one", "loop.example/polarisedlight/impl.zero"], apart := false, laid := [("loop.example/polarisedlight/impl.zero", laid_loop_example_polarisedlight_impl_zero), ("loop.example/polarisedlight/impl.one", laid_loop_example_polarisedlight_impl_one)], narrowed := true }
def FnEnergyUptoSaid : Prop := fnEnergyUptoRow.holds Tryd.pinned (OpenSpec.upto fnEnergySpec)

/-- 'laws.FnKeeps', WHERE WHAT IT READS IS OF BULK AT MOST 1048576: true; the input reads as it did. -/
def fnKeepsUptoRow : OpenClaim := { program := "ytnlgkipjpbdodaadoor", sum := "666ea488a3d7c0d6473a2d28221a1afc76f2e5362c94855e5671e9397edfd369", func := "loop.example/polarisedlight/laws.FnKeeps", spec := "fnKeeps", named := ["loop.example/polarisedlight/impl.zero", "loop.example/polarisedlight/impl.one"], apart := false, laid := [("loop.example/polarisedlight/impl.zero", laid_loop_example_polarisedlight_impl_zero), ("loop.example/polarisedlight/impl.one", laid_loop_example_polarisedlight_impl_one)], narrowed := true }
def FnKeepsUptoSaid : Prop := fnKeepsUptoRow.holds Tryd.pinned (OpenSpec.upto fnKeepsSpec)

end Rows
end Go.Proofs.YtnlgkipjpbdodaaDoor

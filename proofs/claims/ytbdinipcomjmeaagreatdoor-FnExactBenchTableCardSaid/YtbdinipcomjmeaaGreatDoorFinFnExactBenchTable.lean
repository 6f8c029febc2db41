import Derived.Test.YtbdinipcomjmeaaGreatDoorCards
import Derived.Test.YtbdinipcomjmeaaGreatDoorTie
import Derived.Test.YtbdinipcomjmeaaGreatDoorCoFnExactBenchTable
import Derived.Test.YtbdinipcomjmeaaGreatDoorEf
import Derived.WalkKit
import Derived.ProofKit
import Derived.OpenShut
import Derived.ChangeOld
import Derived.ChangeMaps5
import Derived.Below
import Derived.Carry
import Derived.Shelf.Vars
import Derived.Stop.LaidErr
import Derived.Deep.DeepHandedRow
namespace Go.Proofs.YtbdinipcomjmeaaGreatDoor.finFnExactBenchTable
open Go.ChangeShapes Go.WideShapes Go.ChangeAt Go.RowKit Go.Sx
open Go.ChangeMaps (open_string shut_string)
set_option linter.unusedVariables false
theorem own : ownKnob Tryz.prog.godebug = none := by kernel_rfl
theorem laidOut : laidOutB Tryz.prog = true := by kernel_rfl
theorem walk (s0 : ByteArray) (w0 : s0.size ≤ maxLen) (lv : LibV) (W : World) (hG : GlbOk (glb ++ lib lv) W) (hS : ∀ g l, find (glb ++ lib lv) g = some l → g < W.heap.size) : Calls Tryz.prog 4 #[.string s0] W fun e W' => e = .returned (.bool true) ∧ Below W.heap.size W W' := by
  have ht : TypedL sg_FnExactBenchTable.tin [.string s0] := (TypedL_cons' ⟨s0, rfl, Nat.le_trans w0 (by decide)⟩ TypedL_nil')
  obtain ⟨h1, h2⟩ := law_FnExactBenchTable _ ht
  have h := law_calls' (P := Tryz.prog) (f := 4) (sig := sg_FnExactBenchTable) (F := F_FnExactBenchTable) (con_FnExactBenchTable lv) (by kernel_rfl) (by kernel_rfl) (by kernel_rfl) ht h1 h2 W hG hS
  have e : (sg_FnExactBenchTable.args.map (CV.val (at0 []) [.string s0])).toArray = #[.string s0] := by kernel_rfl
  rw [e] at h
  exact h
abbrev synS : ByteArray := { data := #[105, 110, 118, 97, 108, 105, 100, 32, 115, 121, 110, 116, 97, 120] }
abbrev rngS : ByteArray := { data := #[118, 97, 108, 117, 101, 32, 111, 117, 116, 32, 111, 102, 32, 114, 97, 110, 103, 101] }
noncomputable def low : Nat := (World.holding Tryz.prog default ⟨#[], #[], []⟩).heap.size
noncomputable def laidWorld (os : Os) : World :=
  { World.holding Tryz.prog os ⟨#[], #[], []⟩ with heap := (((((((((((World.holding Tryz.prog os ⟨#[.cells #[.string synS] 177, .cells #[.string rngS] 177], #[], []⟩).heap.modify 10 fun
      | .cells _ t frozen => .cells #[.int .u8 0, .int .u8 1, .int .u8 28, .int .u8 2, .int .u8 29, .int .u8 14, .int .u8 24, .int .u8 3, .int .u8 30, .int .u8 22, .int .u8 20, .int .u8 15, .int .u8 25, .int .u8 17, .int .u8 4, .int .u8 8, .int .u8 31, .int .u8 27, .int .u8 13, .int .u8 23, .int .u8 21, .int .u8 19, .int .u8 16, .int .u8 7, .int .u8 26, .int .u8 12, .int .u8 18, .int .u8 6, .int .u8 11, .int .u8 5, .int .u8 10, .int .u8 9] t frozen
      | o => o).modify 11 fun
      | .cells _ t frozen => .cells #[.int .u8 0, .int .u8 1, .int .u8 56, .int .u8 2, .int .u8 57, .int .u8 49, .int .u8 28, .int .u8 3, .int .u8 61, .int .u8 58, .int .u8 42, .int .u8 50, .int .u8 38, .int .u8 29, .int .u8 17, .int .u8 4, .int .u8 62, .int .u8 47, .int .u8 59, .int .u8 36, .int .u8 45, .int .u8 43, .int .u8 51, .int .u8 22, .int .u8 53, .int .u8 39, .int .u8 33, .int .u8 30, .int .u8 24, .int .u8 18, .int .u8 12, .int .u8 5, .int .u8 63, .int .u8 55, .int .u8 48, .int .u8 27, .int .u8 60, .int .u8 41, .int .u8 37, .int .u8 16, .int .u8 46, .int .u8 35, .int .u8 44, .int .u8 21, .int .u8 52, .int .u8 32, .int .u8 23, .int .u8 11, .int .u8 54, .int .u8 26, .int .u8 40, .int .u8 15, .int .u8 34, .int .u8 20, .int .u8 31, .int .u8 10, .int .u8 25, .int .u8 14, .int .u8 19, .int .u8 9, .int .u8 13, .int .u8 8, .int .u8 7, .int .u8 6] t frozen
      | o => o).modify 9 fun
      | .cells _ t frozen => .cells #[.int .u64 1, .int .u64 10, .int .u64 100, .int .u64 1000, .int .u64 10000, .int .u64 100000, .int .u64 1000000, .int .u64 10000000, .int .u64 100000000, .int .u64 1000000000, .int .u64 10000000000, .int .u64 100000000000, .int .u64 1000000000000, .int .u64 10000000000000, .int .u64 100000000000000, .int .u64 1000000000000000, .int .u64 10000000000000000, .int .u64 100000000000000000, .int .u64 1000000000000000000, .int .u64 10000000000000000000] t frozen
      | o => o).modify 6 fun
      | .cells _ t frozen => .cells #[.int .u8 128, .int .u8 191, .int .u8 160, .int .u8 191, .int .u8 128, .int .u8 159, .int .u8 144, .int .u8 191, .int .u8 128, .int .u8 143, .int .u8 0, .int .u8 0, .int .u8 0, .int .u8 0, .int .u8 0, .int .u8 0, .int .u8 0, .int .u8 0, .int .u8 0, .int .u8 0, .int .u8 0, .int .u8 0, .int .u8 0, .int .u8 0, .int .u8 0, .int .u8 0, .int .u8 0, .int .u8 0, .int .u8 0, .int .u8 0, .int .u8 0, .int .u8 0] t frozen
      | o => o).modify 8 fun
      | .cells _ t frozen => .cells #[.iface 175 (.pointer (some ⟨low + 1, 0, none⟩))] t frozen
      | o => o).modify 7 fun
      | .cells _ t frozen => .cells #[.iface 175 (.pointer (some ⟨low, 0, none⟩))] t frozen
      | o => o).modify 2 fun
      | .cells _ t frozen => .cells #[.int .i64 0, .int .i64 0, .int .i64 1] t frozen
      | o => o).modify 0 fun
      | .cells _ t frozen => .cells #[.int .i64 1, .int .i64 0, .int .i64 1] t frozen
      | o => o).modify 3 fun
      | .cells _ t frozen => .cells #[.int .i64 1, .int .i64 0, .int .i64 1, .int .i64 0, .int .i64 1, .int .i64 1, .int .i64 (-1), .int .i64 0, .int .i64 1, .int .i64 0, .int .i64 (-1), .int .i64 1] t frozen
      | o => o).modify 5 fun
      | .cells _ t frozen => .cells ((Go.Pinned.utf8FirstZ).map fun (n : Nat) => Value.int .u8 n).toArray t frozen
      | o => o) }
theorem laid_met (os : Os) : laidMet Tryz.prog Rows.fnExactBenchTableRow.laid ((laidWorld os).forCall (fun _ _ => 0) ⟨#[], #[.string ⟨#[]⟩], []⟩).memory :=
  laidMet_of_run' 8 (by kernel_rfl) (by kernel_rfl)
theorem reads (os : Os) {H : Type} (enc : TypeId × Value → H) : ∃ x, DataW.whole enc Tryz.prog ((laidWorld os).forCall (fun _ _ => 0) ⟨#[], #[.string ⟨#[]⟩], []⟩).memory Tryz.f4.params.toList Rows.fnExactBenchTableSpec.vars false (#[.string ⟨#[]⟩] : Array Value).toList 8 = some x :=
  Option.isSome_iff_exists.1 (by kernel_rfl)
theorem star : "*" ++ "errors.errorString" = "*errors.errorString" := by decide
theorem rowE (u : TypeId) (h : Tryz.prog.typeName? 3 u = some "*errors.errorString") : u = 175 :=
  typeName_ptr_named (nm := "errors.errorString") (by rw [star]; kernel_rfl) (by kernel_rfl) (by decide) u (by rw [star]; exact h)
theorem cE : Tryz.prog.cellsOf 177 = 1 := by kernel_rfl
theorem cS : Tryz.prog.cellsOf 9 = 1 := by kernel_rfl
theorem gP : Tryz.prog.globalNamed "internal/strconv.uint64pow10" = some 9 := by kernel_rfl
theorem gS : Tryz.prog.globalNamed "strconv.ErrSyntax" = some 7 := by kernel_rfl
theorem gR : Tryz.prog.globalNamed "strconv.ErrRange" = some 8 := by kernel_rfl
theorem globs {W : World} (h : laidMetH Tryz.prog Rows.fnExactBenchTableRow.laid W) (hsh : W.ShapedOpen Tryz.prog) : ∃ lv : LibV, GlbOk (glb ++ lib lv) W ∧ (∀ g l, find (glb ++ lib lv) g = some l → g < W.heap.size) := by
  have hL : laidMet Tryz.prog [("math/bits.deBruijn32tab", Rows.laid_math_bits_deBruijn32tab), ("math/bits.deBruijn64tab", Rows.laid_math_bits_deBruijn64tab), ("internal/strconv.uint64pow10", Rows.laid_internal_strconv_uint64pow10), ("unicode/utf8.acceptRanges", Rows.laid_unicode_utf8_acceptRanges), ("strconv.ErrRange", Rows.laid_strconv_ErrRange), ("strconv.ErrSyntax", Rows.laid_strconv_ErrSyntax), ("loop.example/polarisedlight/impl.zero", Rows.laid_loop_example_polarisedlight_impl_zero), ("loop.example/polarisedlight/impl.one", Rows.laid_loop_example_polarisedlight_impl_one), ("loop.example/polarisedlight/impl.turns", Rows.laid_loop_example_polarisedlight_impl_turns), ("unicode/utf8.first", Rows.laid_unicode_utf8_first)] W := h
  have hT : Lib.TabIs Tryz.prog W "internal/strconv.uint64pow10" .u64 Lib.pow10Tab :=
    Lib.tabIs_of_head gP (t := 179) (by kernel_rfl) Tryz.underlying179 Tryz.underlying161 (by kernel_rfl) (by kernel_rfl) hL.tail.tail
  obtain ⟨a0, s0, hv0, -, -, -⟩ := laid_sentinel hL.tail.tail.tail.tail.tail gS (ti := 132) (by kernel_rfl) Tryz.underlying132 rowE Tryz.underlying175 Tryz.underlying177 rfl rfl Tryz.underlying9 cE cS
  obtain ⟨a1, s1, hv1, -, -, -⟩ := laid_sentinel hL.tail.tail.tail.tail gR (ti := 132) (by kernel_rfl) Tryz.underlying132 rowE Tryz.underlying175 Tryz.underlying177 rfl rfl Tryz.underlying9 cE cS
  have h0 : W.cell? ⟨7, 0, none⟩ = some (.iface 175 (.pointer (some a0))) := by have h0 := World.var?_cell gS hv0 0; simpa using h0
  have h1 : W.cell? ⟨8, 0, none⟩ = some (.iface 175 (.pointer (some a1))) := by have h0 := World.var?_cell gR hv1 0; simpa using h0
  obtain ⟨ps_zero, lv_zero, -⟩ := hL.tail.tail.tail.tail.tail.tail
  obtain ⟨lt_zero, ce_zero, -⟩ := laid_three (a := (0)) (b := (0)) (c := (1)) (g := 2) lv_zero (by kernel_rfl) (t := 25) (by kernel_rfl) Tryz.underlying25 (by kernel_rfl) (by kernel_rfl) (by kernel_rfl) (by kernel_rfl) (by kernel_rfl) (by kernel_rfl) (by kernel_rfl) (by kernel_rfl) (by kernel_rfl) (by kernel_rfl)
  obtain ⟨ps_one, lv_one, -⟩ := hL.tail.tail.tail.tail.tail.tail.tail
  obtain ⟨lt_one, ce_one, -⟩ := laid_three (a := (1)) (b := (0)) (c := (1)) (g := 0) lv_one (by kernel_rfl) (t := 25) (by kernel_rfl) Tryz.underlying25 (by kernel_rfl) (by kernel_rfl) (by kernel_rfl) (by kernel_rfl) (by kernel_rfl) (by kernel_rfl) (by kernel_rfl) (by kernel_rfl) (by kernel_rfl) (by kernel_rfl)
  obtain ⟨ps_turns, lv_turns, -⟩ := hL.tail.tail.tail.tail.tail.tail.tail.tail
  obtain ⟨lt_turns, ce_turns, -⟩ := laid_four (a0 := (1)) (b0 := (0)) (c0 := (1)) (a1 := (0)) (b1 := (1)) (c1 := (1)) (a2 := (-1)) (b2 := (0)) (c2 := (1)) (a3 := (0)) (b3 := (-1)) (c3 := (1)) (g := 3) lv_turns (by kernel_rfl) (t := 31) (by kernel_rfl) Tryz.underlying31 Tryz.underlying25 (by kernel_rfl) (by kernel_rfl) (by kernel_rfl) (by kernel_rfl) (by kernel_rfl) (by kernel_rfl) (by kernel_rfl) (by kernel_rfl) (by kernel_rfl) (by kernel_rfl) (by kernel_rfl)
  obtain ⟨m, hm⟩ : ∃ m, W.cell? ⟨4, 0, none⟩ = some (.int .i64 m) := Go.Proofs.cell_of_shapedOpen_int (zero := #[.int .i64 0]) (t := 3) hsh (of_decide_eq_true (by kernel_rfl)) (by kernel_rfl) rfl (by kernel_rfl) (by kernel_rfl) Tryz.underlying3
  refine ⟨⟨m, .iface 175 (.pointer (some a0)), .iface 175 (.pointer (some a1)), Or.inr ⟨_, _, rfl⟩, Or.inr ⟨_, _, rfl⟩⟩, ?_, ?_⟩
  · exact glbOk_three ce_zero (glbOk_three ce_one (glbOk_ints (zs := [(1), (0), (1), (0), (1), (1), (-1), (0), (1), (0), (-1), (1)]) ce_turns (glbOk_tab gP hT (glbOk_lib hm h0 h1))))
  · exact globs_cons lt_zero (globs_cons lt_one (globs_cons lt_turns (globs_cons (lt_of_var gP hT) (globs_lib (lt_of_cell hm) (lt_of_cell h0) (lt_of_cell h1)))))
set_option maxRecDepth 100000 in
theorem lifted (os : Os) (started : os.Started) (H : Type) (enc : TypeId × Value → H) (F : Stop.Interp) :
    ReturnsInHanded {} Tryz.checked os 4 .any ((OpenSpec.ofChange Rows.fnExactBenchTableSpec).preRow enc Tryz.prog Tryz.f4 Rows.fnExactBenchTableRow.domain false Rows.fnExactBenchTableRow.laid) (((OpenSpec.ofChange Rows.fnExactBenchTableSpec).at F).post enc Tryz.prog Tryz.f4 false true false false) := by
  obtain ⟨x, hx⟩ := reads os enc
  refine returnsInHanded_of_row (C := Tryz.checked) (s := OpenSpec.ofChange Rows.fnExactBenchTableSpec) own started (by kernel_rfl) Tryz.func4
    (witness_row_at (enc := enc) (C := Tryz.checked) false (laidWorld os) #[.string ⟨#[]⟩] rfl (by kernel_rfl) (by kernel_rfl) (by kernel_rfl)
      (OpenSpec.preRow_of_cond 8 hx rfl (fun k hk => by cases hk) (by kernel_rfl) (laid_met os))) ?_
  intro W base args ds gs before hval0 hW _ _ _ hL hsh _
  have hval : ∀ (j : Nat) t v, Tryz.f4.params[j]? = some t → args[j]? = some v → Value.okWide Tryz.prog W .any base t v := hval0
  have hW' := hW
  obtain ⟨p, q, hA0, hV, rfl, hfz, hnd⟩ := hW
  have hA : DataW.TrodAll enc Tryz.prog W 0 (fun _ => true) true Tryz.f4.params.toList args.toList ds p := hA0
  rw [Tryz.params4] at hA hval
  obtain ⟨v0, vs0, d0, ds0, p0, q0, hargs, rfl, rfl, h0, r0⟩ := trodAll_cons hA
  obtain ⟨rfl, rfl, rfl⟩ := trodAll_nil r0
  obtain rfl : args = #[v0] := by cases args; simp_all
  obtain ⟨s0, rfl, rfl, rfl, w0⟩ := open_string Tryz.underlying9 (hval 0 9 v0 rfl rfl) h0
  clear hA0 hval0
  obtain ⟨lv, hG, hS⟩ := globs hL hsh
  refine (walk s0 w0 lv W hG hS).mono fun e W' ⟨he, bel⟩ => ?_
  subst he
  have hV' := trodVars_below laidOut bel hV (by
    intro nm hn g t h1 h2
    have hn : nm ∈ ["loop.example/polarisedlight/impl.one", "loop.example/polarisedlight/impl.zero", "loop.example/polarisedlight/impl.turns"] := hn
    simp only [List.mem_cons, List.not_mem_nil, or_false] at hn
    rcases hn with rfl | rfl | rfl
    · obtain rfl : g = 0 := Option.some.inj (h1.symm.trans (by kernel_rfl)); obtain rfl : t = 25 := Option.some.inj (h2.symm.trans (by kernel_rfl)); exact ⟨by kernel_rfl, of_decide_eq_true (by kernel_rfl)⟩
    · obtain rfl : g = 2 := Option.some.inj (h1.symm.trans (by kernel_rfl)); obtain rfl : t = 25 := Option.some.inj (h2.symm.trans (by kernel_rfl)); exact ⟨by kernel_rfl, of_decide_eq_true (by kernel_rfl)⟩
    · obtain rfl : g = 3 := Option.some.inj (h1.symm.trans (by kernel_rfl)); obtain rfl : t = 31 := Option.some.inj (h2.symm.trans (by kernel_rfl)); exact ⟨by kernel_rfl, of_decide_eq_true (by kernel_rfl)⟩)
  obtain ⟨ga0, ga1, ga2, rfl⟩ := three_l (trodVars_len hV)
  exact ⟨_, rfl, _, _, _, [], _, _, hW', trodAll_mk1 (shut_bool Tryz.underlying4 _), (trodAll_cons_mk (shut_string Tryz.underlying9 w0) trodAll_mk0), hV', bel.frame _, fun h => by cases h⟩
theorem closed_a : (Rows.fnExactBenchTableRow.inPlace == Tryz.pinned.checked.prog.inPlace 4) = true := by kernel_rfl
theorem closed_b : (Rows.fnExactBenchTableRow.unfollowed == Tryz.pinned.checked.prog.unfollowed 4) = true := by kernel_rfl
theorem closed_c : (Rows.fnExactBenchTableRow.recurses == Tryz.pinned.checked.prog.recurses 4) = true := by kernel_rfl
theorem closed_d : (Rows.fnExactBenchTableRow.named == Tryz.pinned.checked.prog.varsNamed 4) = true := by kernel_rfl
theorem closed : joinedFacts Tryz.pinned.checked.prog 4 Tryz.f4 (OpenSpec.ofChange Rows.fnExactBenchTableSpec).bare Rows.fnExactBenchTableRow = true := by
  unfold joinedFacts
  rw [closed_a, closed_b, closed_c, closed_d]
  kernel_rfl
theorem fnNamed : Tryz.pinned.checked.prog.funcNamed Rows.fnExactBenchTableRow.func = some 4 := by kernel_rfl
theorem fnInst : Tryz.f4.isInstance Tryz.pinned.checked.prog Rows.fnExactBenchTableRow.origin Rows.fnExactBenchTableRow.targs := of_decide_eq_true (by kernel_rfl)
theorem fnWrap : Tryz.f4.isWrapper Tryz.pinned.checked.prog Rows.fnExactBenchTableRow.wrapper Rows.fnExactBenchTableRow.mainSum := by unfold Func.isWrapper; first | (rw [if_pos (by decide +kernel)]; kernel_rfl) | (rw [if_neg (by decide +kernel)]; exact ⟨rfl, rfl⟩)
theorem said : Rows.FnExactBenchTableSaid :=
  OpenClaim.holds_of_cond 4 Tryz.f4 rfl rfl rfl rfl rfl rfl rfl ⟨rfl, rfl, rfl, rfl, rfl⟩ rfl rfl rfl rfl rfl fnNamed Tryz.func4 closed
    fnInst fnWrap
    (fun os started H enc _ F => by rw [OpenClaim.pre_eq_preRow]; exact lifted os started H enc F)
theorem plain (f : FuncId) (fn : Func) (hf : Tryz.pinned.checked.prog.funcNamed "loop.example/polarisedlight/laws.FnExactBenchTable" = some f) (hfn : Tryz.pinned.checked.prog.funcs[f]? = some fn) :
    true = Tryz.pinned.checked.prog.looks [] ∧ ∀ (j : Nat) t, fn.params[j]? = some t → Tryz.pinned.checked.prog.wantsStandIn t = false := by
  obtain rfl : f = 4 := Option.some.inj ((show Tryz.prog.funcNamed "loop.example/polarisedlight/laws.FnExactBenchTable" = some 4 by kernel_rfl).symm.trans hf) |>.symm
  obtain rfl : fn = Tryz.f4 := (Option.some.inj (Tryz.func4.symm.trans hfn)).symm
  refine ⟨by kernel_rfl, fun j t ht => ?_⟩
  rw [Tryz.params4] at ht
  have hm := Array.mem_of_getElem? ht
  simp only [List.mem_toArray, List.mem_cons, List.not_mem_nil, or_false] at hm
  have hall : ([9].all fun u => !Tryz.prog.wantsStandIn u) = true := by kernel_rfl
  exact (show Tryz.prog.wantsStandIn t = false by simpa using List.all_eq_true.1 hall t (by simpa using hm))
end Go.Proofs.YtbdinipcomjmeaaGreatDoor.finFnExactBenchTable
namespace Go.Proofs.YtbdinipcomjmeaaGreatDoor
theorem fnExactBenchTable_card : Rows.FnExactBenchTableCardSaid :=
  Claim7.holds_tied_plain_at .later [] _ _ _ _ finFnExactBenchTable.said (fun _ h => by cases h) (by kernel_rfl) (fun _ h => by cases h) fnExactBenchTable_row_tie rfl ⟨rfl, rfl⟩ (by kernel_rfl) rfl finFnExactBenchTable.plain (by kernel_rfl)
#print axioms fnExactBenchTable_card
end Go.Proofs.YtbdinipcomjmeaaGreatDoor

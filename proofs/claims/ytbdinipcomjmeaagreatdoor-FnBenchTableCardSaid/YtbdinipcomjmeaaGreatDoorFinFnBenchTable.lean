import Derived.Test.YtbdinipcomjmeaaGreatDoorCards
import Derived.Test.YtbdinipcomjmeaaGreatDoorTie
import Derived.Test.YtbdinipcomjmeaaGreatDoorCoFnBenchTable
import Derived.Test.YtbdinipcomjmeaaGreatDoorEf
import Derived.WalkKit
import Derived.ProofKit
import Derived.OpenShut
import Derived.ChangeOld
import Derived.ChangeMaps5
import Derived.Below
import Derived.Carry
import Derived.Shelf.Vars
import Derived.Stop.LaidErr
import Derived.Deep.DeepHandedRow
namespace Go.Sx
open Go
section
open Go.ChangeShapes Go.RowKit
variable {H : Type} {enc : TypeId × Value → H} {P : Program}
theorem laid_four64 {W : World} {name : String} {g : Nat} {t e : TypeId} {g0 g1 g2 : Field} {a0 b0 c0 a1 b1 c1 a2 b2 c2 a3 b3 c3 : Int} {rest : List (String × DataW Unit)} {ps : List MemPlace}
    (h : DataW.LaidVars P W ((name, .agg [fr a0 b0 c0, fr a1 b1 c1, fr a2 b2 c2, fr a3 b3 c3]) :: rest) ps)
    (hg : P.globalNamed name = some g) (hty : (P.globals[g]?).map (·.type) = some t) (hf : P.underlying t = some (.array 4 e)) (he : P.underlying e = some (.struct #[g0, g1, g2]))
    (e0 : P.underlying g0.type = some (.int .i64)) (e1 : P.underlying g1.type = some (.int .i64)) (e2 : P.underlying g2.type = some (.int .i64)) (o0 : g0.offset = 0) (o1 : g1.offset = 1) (o2 : g2.offset = 2)
    (k0 : P.cellsOf g0.type = 1) (k1 : P.cellsOf g1.type = 1) (k2 : P.cellsOf g2.type = 1) (ke : P.cellsOf e = 3) (kt : P.cellsOf t = 12) : All64 W g := by
  obtain ⟨g', t', cs, fuel, p, q, hg', hty', hv, hd, hr, _⟩ := h
  obtain rfl := Option.some.inj (hg.symm.trans hg')
  obtain rfl := Option.some.inj (hty.symm.trans hty')
  exact all64_of hg hv (four_cells hf he e0 e1 e2 o0 o1 o2 k0 k1 k2 ke kt hd)
end
theorem noU8_of64 {W : World} {g : Nat} (h : All64 W g) : NoU8 W g := by
  intro i z hi
  obtain ⟨y, hy⟩ := h i _ hi
  cases hy
end Go.Sx
namespace Go.Proofs.YtbdinipcomjmeaaGreatDoor.finFnBenchTable
open Go.ChangeShapes Go.WideShapes Go.ChangeAt Go.RowKit Go.Sx
open Go.ChangeMaps (open_string shut_string)
set_option linter.unusedVariables false
theorem own : ownKnob Tryz.prog.godebug = none := by kernel_rfl
theorem laidOut : laidOutB Tryz.prog = true := by kernel_rfl
theorem walk (v0 : Value) (cb : CodeB) (hk : CodeOk cb) (hp : (lawF cb).pre [v0]) (tv : HasTy .sl v0) (lv : LibV) (W : World) (gt : GlbOk cb.tail W) (hb : cb.any = true → cb.blk < W.heap.size) (hK : Known cb (glb ++ lib lv ++ cb.tail)) (hG : GlbOk (glb ++ lib lv) W) (hS : ∀ g l, find (glb ++ lib lv) g = some l → g < W.heap.size) : Calls Tryz.prog 3 #[v0] W fun e W' => e = .returned (.bool true) ∧ Below W.heap.size W W' := by
  have h := law_calls_code (P := Tryz.prog) (glb := glb ++ lib lv) (f := 3) (sig := sg_FnBenchTable) (con_FnBenchTable lv hk hK) (by kernel_rfl) (by kernel_rfl) (by kernel_rfl) (by kernel_rfl) tv hp W hG hS gt hb
  have e : (sg_FnBenchTable.args.map (CV.val (at0 []) [v0])).toArray = #[v0] := by kernel_rfl
  rw [e] at h
  exact h
abbrev synS : ByteArray := { data := #[105, 110, 118, 97, 108, 105, 100, 32, 115, 121, 110, 116, 97, 120] }
abbrev rngS : ByteArray := { data := #[118, 97, 108, 117, 101, 32, 111, 117, 116, 32, 111, 102, 32, 114, 97, 110, 103, 101] }
noncomputable def low : Nat := (World.holding Tryz.prog default ⟨#[], #[], []⟩).heap.size
noncomputable def laidWorld (os : Os) : World :=
  { World.holding Tryz.prog os ⟨#[], #[], []⟩ with heap := ((((((((((((World.holding Tryz.prog os ⟨#[.cells #[.string synS] 177, .cells #[.string rngS] 177], #[], []⟩).heap.modify 10 fun
      | .cells _ t frozen => .cells #[.int .u8 0, .int .u8 1, .int .u8 28, .int .u8 2, .int .u8 29, .int .u8 14, .int .u8 24, .int .u8 3, .int .u8 30, .int .u8 22, .int .u8 20, .int .u8 15, .int .u8 25, .int .u8 17, .int .u8 4, .int .u8 8, .int .u8 31, .int .u8 27, .int .u8 13, .int .u8 23, .int .u8 21, .int .u8 19, .int .u8 16, .int .u8 7, .int .u8 26, .int .u8 12, .int .u8 18, .int .u8 6, .int .u8 11, .int .u8 5, .int .u8 10, .int .u8 9] t frozen
      | o => o).modify 11 fun
      | .cells _ t frozen => .cells #[.int .u8 0, .int .u8 1, .int .u8 56, .int .u8 2, .int .u8 57, .int .u8 49, .int .u8 28, .int .u8 3, .int .u8 61, .int .u8 58, .int .u8 42, .int .u8 50, .int .u8 38, .int .u8 29, .int .u8 17, .int .u8 4, .int .u8 62, .int .u8 47, .int .u8 59, .int .u8 36, .int .u8 45, .int .u8 43, .int .u8 51, .int .u8 22, .int .u8 53, .int .u8 39, .int .u8 33, .int .u8 30, .int .u8 24, .int .u8 18, .int .u8 12, .int .u8 5, .int .u8 63, .int .u8 55, .int .u8 48, .int .u8 27, .int .u8 60, .int .u8 41, .int .u8 37, .int .u8 16, .int .u8 46, .int .u8 35, .int .u8 44, .int .u8 21, .int .u8 52, .int .u8 32, .int .u8 23, .int .u8 11, .int .u8 54, .int .u8 26, .int .u8 40, .int .u8 15, .int .u8 34, .int .u8 20, .int .u8 31, .int .u8 10, .int .u8 25, .int .u8 14, .int .u8 19, .int .u8 9, .int .u8 13, .int .u8 8, .int .u8 7, .int .u8 6] t frozen
      | o => o).modify 9 fun
      | .cells _ t frozen => .cells #[.int .u64 1, .int .u64 10, .int .u64 100, .int .u64 1000, .int .u64 10000, .int .u64 100000, .int .u64 1000000, .int .u64 10000000, .int .u64 100000000, .int .u64 1000000000, .int .u64 10000000000, .int .u64 100000000000, .int .u64 1000000000000, .int .u64 10000000000000, .int .u64 100000000000000, .int .u64 1000000000000000, .int .u64 10000000000000000, .int .u64 100000000000000000, .int .u64 1000000000000000000, .int .u64 10000000000000000000] t frozen
      | o => o).modify 6 fun
      | .cells _ t frozen => .cells #[.int .u8 128, .int .u8 191, .int .u8 160, .int .u8 191, .int .u8 128, .int .u8 159, .int .u8 144, .int .u8 191, .int .u8 128, .int .u8 143, .int .u8 0, .int .u8 0, .int .u8 0, .int .u8 0, .int .u8 0, .int .u8 0, .int .u8 0, .int .u8 0, .int .u8 0, .int .u8 0, .int .u8 0, .int .u8 0, .int .u8 0, .int .u8 0, .int .u8 0, .int .u8 0, .int .u8 0, .int .u8 0, .int .u8 0, .int .u8 0, .int .u8 0, .int .u8 0] t frozen
      | o => o).modify 8 fun
      | .cells _ t frozen => .cells #[.iface 175 (.pointer (some ⟨low + 1, 0, none⟩))] t frozen
      | o => o).modify 7 fun
      | .cells _ t frozen => .cells #[.iface 175 (.pointer (some ⟨low, 0, none⟩))] t frozen
      | o => o).modify 2 fun
      | .cells _ t frozen => .cells #[.int .i64 0, .int .i64 0, .int .i64 1] t frozen
      | o => o).modify 0 fun
      | .cells _ t frozen => .cells #[.int .i64 1, .int .i64 0, .int .i64 1] t frozen
      | o => o).modify 3 fun
      | .cells _ t frozen => .cells #[.int .i64 1, .int .i64 0, .int .i64 1, .int .i64 0, .int .i64 1, .int .i64 1, .int .i64 (-1), .int .i64 0, .int .i64 1, .int .i64 0, .int .i64 (-1), .int .i64 1] t frozen
      | o => o).modify 1 fun
      | .cells _ t frozen => .cells #[.int .i64 1, .int .i64 0, .int .i64 1, .int .i64 0, .int .i64 0, .int .i64 1, .int .i64 0, .int .i64 0, .int .i64 1, .int .i64 1, .int .i64 0, .int .i64 1] t frozen
      | o => o).modify 5 fun
      | .cells _ t frozen => .cells ((Go.Pinned.utf8FirstZ).map fun (n : Nat) => Value.int .u8 n).toArray t frozen
      | o => o) }
theorem laid_met (os : Os) : laidMet Tryz.prog Rows.fnBenchTableRow.laid ((laidWorld os).forCall (fun _ _ => 0) ⟨#[], #[.slice Option.none 0 0], []⟩).memory :=
  laidMet_of_run' 8 (by kernel_rfl) (by kernel_rfl)
theorem reads (os : Os) {H : Type} (enc : TypeId × Value → H) : ∃ x, DataW.whole enc Tryz.prog ((laidWorld os).forCall (fun _ _ => 0) ⟨#[], #[.slice Option.none 0 0], []⟩).memory Tryz.f3.params.toList Rows.fnBenchTableSpec.vars false (#[.slice Option.none 0 0] : Array Value).toList 8 = some x :=
  Option.isSome_iff_exists.1 (by kernel_rfl)
theorem star : "*" ++ "errors.errorString" = "*errors.errorString" := by decide
theorem rowE (u : TypeId) (h : Tryz.prog.typeName? 3 u = some "*errors.errorString") : u = 175 :=
  typeName_ptr_named (nm := "errors.errorString") (by rw [star]; kernel_rfl) (by kernel_rfl) (by decide) u (by rw [star]; exact h)
theorem cE : Tryz.prog.cellsOf 177 = 1 := by kernel_rfl
theorem cS : Tryz.prog.cellsOf 9 = 1 := by kernel_rfl
theorem gP : Tryz.prog.globalNamed "internal/strconv.uint64pow10" = some 9 := by kernel_rfl
theorem gS : Tryz.prog.globalNamed "strconv.ErrSyntax" = some 7 := by kernel_rfl
theorem gR : Tryz.prog.globalNamed "strconv.ErrRange" = some 8 := by kernel_rfl
theorem globs {W : World} (h : laidMetH Tryz.prog Rows.fnBenchTableRow.laid W) (hsh : W.ShapedOpen Tryz.prog) : ∃ lv : LibV, GlbOk (glb ++ lib lv) W ∧ (∀ g l, find (glb ++ lib lv) g = some l → g < W.heap.size) ∧ ∀ k a, (k, a) ∈ glb ++ lib lv → NoU8 W k := by
  have hL : laidMet Tryz.prog [("math/bits.deBruijn32tab", Rows.laid_math_bits_deBruijn32tab), ("math/bits.deBruijn64tab", Rows.laid_math_bits_deBruijn64tab), ("internal/strconv.uint64pow10", Rows.laid_internal_strconv_uint64pow10), ("unicode/utf8.acceptRanges", Rows.laid_unicode_utf8_acceptRanges), ("strconv.ErrRange", Rows.laid_strconv_ErrRange), ("strconv.ErrSyntax", Rows.laid_strconv_ErrSyntax), ("loop.example/polarisedlight/impl.zero", Rows.laid_loop_example_polarisedlight_impl_zero), ("loop.example/polarisedlight/impl.one", Rows.laid_loop_example_polarisedlight_impl_one), ("loop.example/polarisedlight/impl.turns", Rows.laid_loop_example_polarisedlight_impl_turns), ("loop.example/polarisedlight/impl.same", Rows.laid_loop_example_polarisedlight_impl_same), ("unicode/utf8.first", Rows.laid_unicode_utf8_first)] W := h
  have hT : Lib.TabIs Tryz.prog W "internal/strconv.uint64pow10" .u64 Lib.pow10Tab :=
    Lib.tabIs_of_head gP (t := 179) (by kernel_rfl) Tryz.underlying179 Tryz.underlying161 (by kernel_rfl) (by kernel_rfl) hL.tail.tail
  obtain ⟨a0, s0, hv0, -, -, -⟩ := laid_sentinel hL.tail.tail.tail.tail.tail gS (ti := 132) (by kernel_rfl) Tryz.underlying132 rowE Tryz.underlying175 Tryz.underlying177 rfl rfl Tryz.underlying9 cE cS
  obtain ⟨a1, s1, hv1, -, -, -⟩ := laid_sentinel hL.tail.tail.tail.tail gR (ti := 132) (by kernel_rfl) Tryz.underlying132 rowE Tryz.underlying175 Tryz.underlying177 rfl rfl Tryz.underlying9 cE cS
  have h0 : W.cell? ⟨7, 0, none⟩ = some (.iface 175 (.pointer (some a0))) := by have h0 := World.var?_cell gS hv0 0; simpa using h0
  have h1 : W.cell? ⟨8, 0, none⟩ = some (.iface 175 (.pointer (some a1))) := by have h0 := World.var?_cell gR hv1 0; simpa using h0
  obtain ⟨ps_zero, lv_zero, -⟩ := hL.tail.tail.tail.tail.tail.tail
  have nb_zero : NoU8 W 2 := noU8_of64 (laid_three64 (a := (0)) (b := (0)) (c := (1)) (g := 2) lv_zero (by kernel_rfl) (t := 25) (by kernel_rfl) Tryz.underlying25 (by kernel_rfl) (by kernel_rfl) (by kernel_rfl) (by kernel_rfl) (by kernel_rfl) (by kernel_rfl) (by kernel_rfl) (by kernel_rfl) (by kernel_rfl) (by kernel_rfl))
  obtain ⟨lt_zero, ce_zero, -⟩ := laid_three (a := (0)) (b := (0)) (c := (1)) (g := 2) lv_zero (by kernel_rfl) (t := 25) (by kernel_rfl) Tryz.underlying25 (by kernel_rfl) (by kernel_rfl) (by kernel_rfl) (by kernel_rfl) (by kernel_rfl) (by kernel_rfl) (by kernel_rfl) (by kernel_rfl) (by kernel_rfl) (by kernel_rfl)
  obtain ⟨ps_one, lv_one, -⟩ := hL.tail.tail.tail.tail.tail.tail.tail
  have nb_one : NoU8 W 0 := noU8_of64 (laid_three64 (a := (1)) (b := (0)) (c := (1)) (g := 0) lv_one (by kernel_rfl) (t := 25) (by kernel_rfl) Tryz.underlying25 (by kernel_rfl) (by kernel_rfl) (by kernel_rfl) (by kernel_rfl) (by kernel_rfl) (by kernel_rfl) (by kernel_rfl) (by kernel_rfl) (by kernel_rfl) (by kernel_rfl))
  obtain ⟨lt_one, ce_one, -⟩ := laid_three (a := (1)) (b := (0)) (c := (1)) (g := 0) lv_one (by kernel_rfl) (t := 25) (by kernel_rfl) Tryz.underlying25 (by kernel_rfl) (by kernel_rfl) (by kernel_rfl) (by kernel_rfl) (by kernel_rfl) (by kernel_rfl) (by kernel_rfl) (by kernel_rfl) (by kernel_rfl) (by kernel_rfl)
  obtain ⟨ps_same, lv_same, -⟩ := hL.tail.tail.tail.tail.tail.tail.tail.tail.tail
  have nb_same : NoU8 W 1 := noU8_of64 (laid_mat64 (a0 := (1)) (b0 := (0)) (c0 := (1)) (a1 := (0)) (b1 := (0)) (c1 := (1)) (a2 := (0)) (b2 := (0)) (c2 := (1)) (a3 := (1)) (b3 := (0)) (c3 := (1)) (g := 1) lv_same (by kernel_rfl) (t := 33) (by kernel_rfl) Tryz.underlying33 Tryz.underlying31 Tryz.underlying25 (by kernel_rfl) (by kernel_rfl) (by kernel_rfl) (by kernel_rfl) (by kernel_rfl) (by kernel_rfl) (by kernel_rfl) (by kernel_rfl) (by kernel_rfl) (by kernel_rfl) (by kernel_rfl) (by kernel_rfl) (by kernel_rfl))
  obtain ⟨lt_same, ce_same, -⟩ := laid_mat (a0 := (1)) (b0 := (0)) (c0 := (1)) (a1 := (0)) (b1 := (0)) (c1 := (1)) (a2 := (0)) (b2 := (0)) (c2 := (1)) (a3 := (1)) (b3 := (0)) (c3 := (1)) (g := 1) lv_same (by kernel_rfl) (t := 33) (by kernel_rfl) Tryz.underlying33 Tryz.underlying31 Tryz.underlying25 (by kernel_rfl) (by kernel_rfl) (by kernel_rfl) (by kernel_rfl) (by kernel_rfl) (by kernel_rfl) (by kernel_rfl) (by kernel_rfl) (by kernel_rfl) (by kernel_rfl) (by kernel_rfl) (by kernel_rfl) (by kernel_rfl)
  obtain ⟨ps_turns, lv_turns, -⟩ := hL.tail.tail.tail.tail.tail.tail.tail.tail
  have nb_turns : NoU8 W 3 := noU8_of64 (laid_four64 (a0 := (1)) (b0 := (0)) (c0 := (1)) (a1 := (0)) (b1 := (1)) (c1 := (1)) (a2 := (-1)) (b2 := (0)) (c2 := (1)) (a3 := (0)) (b3 := (-1)) (c3 := (1)) (g := 3) lv_turns (by kernel_rfl) (t := 31) (by kernel_rfl) Tryz.underlying31 Tryz.underlying25 (by kernel_rfl) (by kernel_rfl) (by kernel_rfl) (by kernel_rfl) (by kernel_rfl) (by kernel_rfl) (by kernel_rfl) (by kernel_rfl) (by kernel_rfl) (by kernel_rfl) (by kernel_rfl))
  obtain ⟨lt_turns, ce_turns, -⟩ := laid_four (a0 := (1)) (b0 := (0)) (c0 := (1)) (a1 := (0)) (b1 := (1)) (c1 := (1)) (a2 := (-1)) (b2 := (0)) (c2 := (1)) (a3 := (0)) (b3 := (-1)) (c3 := (1)) (g := 3) lv_turns (by kernel_rfl) (t := 31) (by kernel_rfl) Tryz.underlying31 Tryz.underlying25 (by kernel_rfl) (by kernel_rfl) (by kernel_rfl) (by kernel_rfl) (by kernel_rfl) (by kernel_rfl) (by kernel_rfl) (by kernel_rfl) (by kernel_rfl) (by kernel_rfl) (by kernel_rfl)
  obtain ⟨m, hm⟩ : ∃ m, W.cell? ⟨4, 0, none⟩ = some (.int .i64 m) := Go.Proofs.cell_of_shapedOpen_int (zero := #[.int .i64 0]) (t := 3) hsh (of_decide_eq_true (by kernel_rfl)) (by kernel_rfl) rfl (by kernel_rfl) (by kernel_rfl) Tryz.underlying3
  refine ⟨⟨m, .iface 175 (.pointer (some a0)), .iface 175 (.pointer (some a1)), Or.inr ⟨_, _, rfl⟩, Or.inr ⟨_, _, rfl⟩⟩, ?_, ?_, ?_⟩
  · exact glbOk_three ce_zero (glbOk_three ce_one (glbOk_ints (zs := [(1), (0), (1), (0), (0), (1), (0), (0), (1), (1), (0), (1)]) ce_same (glbOk_ints (zs := [(1), (0), (1), (0), (1), (1), (-1), (0), (1), (0), (-1), (1)]) ce_turns (glbOk_tab gP hT (glbOk_lib hm h0 h1)))))
  · exact globs_cons lt_zero (globs_cons lt_one (globs_cons lt_same (globs_cons lt_turns (globs_cons (lt_of_var gP hT) (globs_lib (lt_of_cell hm) (lt_of_cell h0) (lt_of_cell h1))))))
  · intro k a hk
    have hk : (k, a) ∈ (2, _) :: (0, _) :: (1, _) :: (3, _) :: (9, _) :: LibV.tail _ 4 7 8 := hk
    simp only [LibV.tail, List.mem_cons, List.not_mem_nil, or_false, Prod.mk.injEq] at hk
    rcases hk with ⟨rfl, _⟩ | ⟨rfl, _⟩ | ⟨rfl, _⟩ | ⟨rfl, _⟩ | ⟨rfl, _⟩ | ⟨rfl, _⟩ | ⟨rfl, _⟩ | ⟨rfl, _⟩
    · exact nb_zero
    · exact nb_one
    · exact nb_same
    · exact nb_turns
    · exact noU8_tab gP hT
    · exact noU8_shape (zero := #[.int .i64 0]) (t := 3) hsh (of_decide_eq_true (by kernel_rfl)) (by kernel_rfl) rfl hm
    · exact noU8_iface gS hv0
    · exact noU8_iface gR hv1
set_option maxRecDepth 100000 in
theorem lifted (os : Os) (started : os.Started) (H : Type) (enc : TypeId × Value → H) (F : Stop.Interp) :
    ReturnsInHanded {} Tryz.checked os 3 .any ((OpenSpec.ofChange Rows.fnBenchTableSpec).preRow enc Tryz.prog Tryz.f3 Rows.fnBenchTableRow.domain false Rows.fnBenchTableRow.laid) (((OpenSpec.ofChange Rows.fnBenchTableSpec).at F).post enc Tryz.prog Tryz.f3 false true false false) := by
  obtain ⟨x, hx⟩ := reads os enc
  refine returnsInHanded_of_row (C := Tryz.checked) (s := OpenSpec.ofChange Rows.fnBenchTableSpec) own started (by kernel_rfl) Tryz.func3
    (witness_row_at (enc := enc) (C := Tryz.checked) false (laidWorld os) #[.slice Option.none 0 0] rfl (by kernel_rfl) (by kernel_rfl) (by kernel_rfl)
      (OpenSpec.preRow_of_cond 8 hx rfl (fun k hk => by cases hk) (by kernel_rfl) (laid_met os))) ?_
  intro W base args ds gs before hval0 hW _ _ _ hL hsh _
  have hval : ∀ (j : Nat) t v, Tryz.f3.params[j]? = some t → args[j]? = some v → Value.okWide Tryz.prog W .any base t v := hval0
  have hW' := hW
  obtain ⟨p, q, hA0, hV, rfl, hfz, hnd⟩ := hW
  have hA : DataW.TrodAll enc Tryz.prog W 0 (fun _ => true) true Tryz.f3.params.toList args.toList ds p := hA0
  rw [Tryz.params3] at hA hval
  obtain ⟨v0, vs0, d0, ds0, p0, q0, hargs, rfl, rfl, h0, r0⟩ := trodAll_cons hA
  obtain ⟨rfl, rfl, rfl⟩ := trodAll_nil r0
  obtain rfl : args = #[v0] := by cases args; simp_all
  have lt0 : ∀ x ∈ p0, x.block < W.heap.size := by obtain ⟨m, hm⟩ := h0; exact DataW.trod_lt m _ _ _ hm
  obtain ⟨cb, hk, hp, tv, gt, hb⟩ := open_code Tryz.underlying22 (by kernel_rfl) Tryz.underlying5 (hval 0 22 v0 rfl rfl) h0
  clear hA0 hval0
  obtain ⟨lv, hG, hS, hN⟩ := globs hL hsh
  refine (walk v0 cb hk hp tv lv W gt (fun ha => (hb ha).1) (known_no hN hb) hG hS).mono fun e W' ⟨he, bel⟩ => ?_
  subst he
  have hV' := trodVars_below laidOut bel hV (by
    intro nm hn g t h1 h2
    have hn : nm ∈ ["loop.example/polarisedlight/impl.one", "loop.example/polarisedlight/impl.zero", "loop.example/polarisedlight/impl.turns", "loop.example/polarisedlight/impl.same"] := hn
    simp only [List.mem_cons, List.not_mem_nil, or_false] at hn
    rcases hn with rfl | rfl | rfl | rfl
    · obtain rfl : g = 0 := Option.some.inj (h1.symm.trans (by kernel_rfl)); obtain rfl : t = 25 := Option.some.inj (h2.symm.trans (by kernel_rfl)); exact ⟨by kernel_rfl, of_decide_eq_true (by kernel_rfl)⟩
    · obtain rfl : g = 2 := Option.some.inj (h1.symm.trans (by kernel_rfl)); obtain rfl : t = 25 := Option.some.inj (h2.symm.trans (by kernel_rfl)); exact ⟨by kernel_rfl, of_decide_eq_true (by kernel_rfl)⟩
    · obtain rfl : g = 3 := Option.some.inj (h1.symm.trans (by kernel_rfl)); obtain rfl : t = 31 := Option.some.inj (h2.symm.trans (by kernel_rfl)); exact ⟨by kernel_rfl, of_decide_eq_true (by kernel_rfl)⟩
    · obtain rfl : g = 1 := Option.some.inj (h1.symm.trans (by kernel_rfl)); obtain rfl : t = 33 := Option.some.inj (h2.symm.trans (by kernel_rfl)); exact ⟨by kernel_rfl, of_decide_eq_true (by kernel_rfl)⟩)
  obtain ⟨ga0, ga1, ga2, ga3, rfl⟩ := four_l (trodVars_len hV)
  exact ⟨_, rfl, _, _, _, [], _, _, hW', trodAll_mk1 (shut_bool Tryz.underlying4 _), (trodAll_cons_mk (Below.trod laidOut (by kernel_rfl) (of_decide_eq_true (by kernel_rfl)) h0 bel lt0) trodAll_mk0), hV', bel.frame _, fun h => by cases h⟩
theorem closed_a : (Rows.fnBenchTableRow.inPlace == Tryz.pinned.checked.prog.inPlace 3) = true := by kernel_rfl
theorem closed_b : (Rows.fnBenchTableRow.unfollowed == Tryz.pinned.checked.prog.unfollowed 3) = true := by kernel_rfl
theorem closed_c : (Rows.fnBenchTableRow.recurses == Tryz.pinned.checked.prog.recurses 3) = true := by kernel_rfl
theorem closed_d : (Rows.fnBenchTableRow.named == Tryz.pinned.checked.prog.varsNamed 3) = true := by kernel_rfl
theorem closed : joinedFacts Tryz.pinned.checked.prog 3 Tryz.f3 (OpenSpec.ofChange Rows.fnBenchTableSpec).bare Rows.fnBenchTableRow = true := by
  unfold joinedFacts
  rw [closed_a, closed_b, closed_c, closed_d]
  kernel_rfl
theorem fnNamed : Tryz.pinned.checked.prog.funcNamed Rows.fnBenchTableRow.func = some 3 := by kernel_rfl
theorem fnInst : Tryz.f3.isInstance Tryz.pinned.checked.prog Rows.fnBenchTableRow.origin Rows.fnBenchTableRow.targs := of_decide_eq_true (by kernel_rfl)
theorem fnWrap : Tryz.f3.isWrapper Tryz.pinned.checked.prog Rows.fnBenchTableRow.wrapper Rows.fnBenchTableRow.mainSum := by unfold Func.isWrapper; first | (rw [if_pos (by decide +kernel)]; kernel_rfl) | (rw [if_neg (by decide +kernel)]; exact ⟨rfl, rfl⟩)
theorem said : Rows.FnBenchTableSaid :=
  OpenClaim.holds_of_cond 3 Tryz.f3 rfl rfl rfl rfl rfl rfl rfl ⟨rfl, rfl, rfl, rfl, rfl⟩ rfl rfl rfl rfl rfl fnNamed Tryz.func3 closed
    fnInst fnWrap
    (fun os started H enc _ F => by rw [OpenClaim.pre_eq_preRow]; exact lifted os started H enc F)
theorem plain (f : FuncId) (fn : Func) (hf : Tryz.pinned.checked.prog.funcNamed "loop.example/polarisedlight/laws.FnBenchTable" = some f) (hfn : Tryz.pinned.checked.prog.funcs[f]? = some fn) :
    true = Tryz.pinned.checked.prog.looks [] ∧ ∀ (j : Nat) t, fn.params[j]? = some t → Tryz.pinned.checked.prog.wantsStandIn t = false := by
  obtain rfl : f = 3 := Option.some.inj ((show Tryz.prog.funcNamed "loop.example/polarisedlight/laws.FnBenchTable" = some 3 by kernel_rfl).symm.trans hf) |>.symm
  obtain rfl : fn = Tryz.f3 := (Option.some.inj (Tryz.func3.symm.trans hfn)).symm
  refine ⟨by kernel_rfl, fun j t ht => ?_⟩
  rw [Tryz.params3] at ht
  have hm := Array.mem_of_getElem? ht
  simp only [List.mem_toArray, List.mem_cons, List.not_mem_nil, or_false] at hm
  have hall : ([22].all fun u => !Tryz.prog.wantsStandIn u) = true := by kernel_rfl
  exact (show Tryz.prog.wantsStandIn t = false by simpa using List.all_eq_true.1 hall t (by simpa using hm))
end Go.Proofs.YtbdinipcomjmeaaGreatDoor.finFnBenchTable
namespace Go.Proofs.YtbdinipcomjmeaaGreatDoor
theorem fnBenchTable_card : Rows.FnBenchTableCardSaid :=
  Claim7.holds_tied_plain_at .later [] _ _ _ _ finFnBenchTable.said (fun _ h => by cases h) (by kernel_rfl) (fun _ h => by cases h) fnBenchTable_row_tie rfl ⟨rfl, rfl⟩ (by kernel_rfl) rfl finFnBenchTable.plain (by kernel_rfl)
#print axioms fnBenchTable_card
end Go.Proofs.YtbdinipcomjmeaaGreatDoor

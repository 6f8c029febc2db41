/-
  The law FnFilmSingle answers true at every input, and each argument reads afterwards as it read before. The package variables that it reads hold what their text lays; the card ties that. No conditions.
-/
import Derived.Test.YtebldmiopbfmgaaDoorCards
import Derived.Test.YtebldmiopbfmgaaDoorTie
import Derived.Test.YtebldmiopbfmgaaDoorCoFnFilmSingle
import Derived.Test.YtebldmiopbfmgaaDoorEh
import Derived.WalkKit
import Derived.ProofKit
import Derived.OpenShut
import Derived.ChangeOld
import Derived.Below
import Derived.Carry
namespace Go.Proofs.YtebldmiopbfmgaaDoor.finFnFilmSingle
open Go.ChangeShapes Go.WideShapes Go.ChangeAt Go.RowKit Go.Sx
set_option linter.unusedVariables false

theorem own : ownKnob Tryd.prog.godebug = none := by kernel_rfl
theorem laidOut : laidOutB Tryd.prog = true := by kernel_rfl
def lst (g : Nat → Int) : Nat → Nat → List Int
  | _, 0 => []
  | k, n + 1 => g k :: lst g (k + 1) n
theorem lst_of : ∀ (l : List Int) (k : Nat) (f : Nat → Int), (∀ i, f (k + i) = l.getD i 0) → l = lst f k l.length
  | [], _, _, _ => rfl
  | x :: r, k, f, h => by
    have h0 : f k = x := by simpa using h 0
    rw [List.length_cons, lst, h0, ← lst_of r (k + 1) f fun i => by have := h (i + 1); rw [show k + (i + 1) = k + 1 + i by omega] at this; simpa using this]
theorem listFn {l : List Int} {n : Nat} (h : l.length = n) : ∃ g : Nat → Int, l = lst g 0 n := ⟨fun i => l.getD i 0, by rw [← h]; exact lst_of l 0 _ fun i => by rw [Nat.zero_add]⟩
/-- The law's call answers true and leaves all that was there. -/
theorem walk (v0 : Value) (cb : CodeB) (hk : CodeOk cb) (hp : (lawF cb).pre [v0]) (tv : HasTy .sl v0) (W : World) (gt : GlbOk cb.tail W) (hb : cb.any = true → cb.blk < W.heap.size) (hK : Known cb (glb ++ cb.tail)) (hG : GlbOk glb W) (hS : ∀ g l, find glb g = some l → g < W.heap.size) : Calls Tryd.prog 6 #[v0] W fun e w' => e = .returned (.bool true) ∧ Below W.heap.size W w' := by
  have h := law_calls_code (P := Tryd.prog) (glb := glb) (f := 6) (sig := sg_FnFilmSingle) (con_FnFilmSingle hk hK) (by kernel_rfl) (by kernel_rfl) (by kernel_rfl) (by kernel_rfl) tv hp W hG hS gt hb
  have e : (sg_FnFilmSingle.args.map (CV.val (at0 []) [v0])).toArray = #[v0] := by kernel_rfl
  rw [e] at h
  exact h

/-- A world in which the variables hold what their text lays. -/
noncomputable def laidWorld (os : Os) : World :=
  { World.holding Tryd.prog os ⟨#[], #[], []⟩ with heap := ((World.holding Tryd.prog os ⟨#[], #[], []⟩).heap.modify 0 fun
      | .cells _ t frozen => .cells #[.int .i64 (0), .int .i64 (0), .int .i64 (1)] t frozen
      | o => o) }
theorem laid_met (os : Os) : laidMet Tryd.prog Rows.fnFilmSingleRow.laid ((laidWorld os).forCall (fun _ _ => 0) ⟨#[], #[.slice Option.none 0 0], []⟩).memory :=
  laidMet_of_run' 8 (by kernel_rfl) (by kernel_rfl)
theorem reads (os : Os) {H : Type} (enc : TypeId × Value → H) : ∃ x, DataW.whole enc Tryd.prog ((laidWorld os).forCall (fun _ _ => 0) ⟨#[], #[.slice Option.none 0 0], []⟩).memory Tryd.f6.params.toList Rows.fnFilmSingleSpec.vars false (#[.slice Option.none 0 0] : Array Value).toList 8 = some x :=
  Option.isSome_iff_exists.1 (by kernel_rfl)
theorem globs {W : World} (h : laidMetH Tryd.prog Rows.fnFilmSingleRow.laid W) : GlbOk glb W ∧ ∀ g l, find glb g = some l → g < W.heap.size := by
  obtain ⟨ps, hL, _⟩ : laidMet Tryd.prog Rows.fnFilmSingleRow.laid W := h
  obtain ⟨s0, c0, q0, L0⟩ := laid_three hL (by kernel_rfl) (t := 36) (by kernel_rfl) Tryd.underlying36 (by kernel_rfl) (by kernel_rfl) (by kernel_rfl) (by kernel_rfl) (by kernel_rfl) (by kernel_rfl) (by kernel_rfl) (by kernel_rfl) (by kernel_rfl) (by kernel_rfl)
  exact ⟨glbOk_three c0 (glbOk_nil), globs_cons s0 (globs_nil)⟩
theorem known {W : World} {cb : CodeB} (h : laidMetH Tryd.prog Rows.fnFilmSingleRow.laid W) (hb : cb.any = true → cb.blk < W.heap.size ∧ (cb.cells ≠ [] → ∃ i z, W.cell? ⟨cb.blk, i, none⟩ = some (.int .u8 z))) : Known cb (glb ++ cb.tail) := by
  obtain ⟨ps, hL, _⟩ : laidMet Tryd.prog Rows.fnFilmSingleRow.laid W := h
  obtain ⟨_, _, q0, L0⟩ := laid_three (g := 0) hL (by kernel_rfl) (t := 36) (by kernel_rfl) Tryd.underlying36 (by kernel_rfl) (by kernel_rfl) (by kernel_rfl) (by kernel_rfl) (by kernel_rfl) (by kernel_rfl) (by kernel_rfl) (by kernel_rfl) (by kernel_rfl) (by kernel_rfl)
  have k0 := laid_three64 (g := 0) hL (by kernel_rfl) (t := 36) (by kernel_rfl) Tryd.underlying36 (by kernel_rfl) (by kernel_rfl) (by kernel_rfl) (by kernel_rfl) (by kernel_rfl) (by kernel_rfl) (by kernel_rfl) (by kernel_rfl) (by kernel_rfl) (by kernel_rfl)
  refine known_64 (fun k a hm => ?_) hb
  simp only [glb, List.mem_cons, List.not_mem_nil, or_false, Prod.mk.injEq] at hm
  obtain ⟨rfl, rfl⟩ := hm
  · exact k0

set_option maxRecDepth 100000 in
theorem lifted (os : Os) (started : os.Started) (H : Type) (enc : TypeId × Value → H) (F : Stop.Interp) :
    ReturnsInHanded {} Tryd.checked os 6 .any ((OpenSpec.ofChange Rows.fnFilmSingleSpec).preRow enc Tryd.prog Tryd.f6 Rows.fnFilmSingleRow.domain false Rows.fnFilmSingleRow.laid) (((OpenSpec.ofChange Rows.fnFilmSingleSpec).at F).post enc Tryd.prog Tryd.f6 false true false false) := by
  obtain ⟨x, hx⟩ := reads os enc
  refine returnsInHanded_of_row (C := Tryd.checked) (s := OpenSpec.ofChange Rows.fnFilmSingleSpec) own started (by kernel_rfl) Tryd.func6
    (witness_row_at (enc := enc) (C := Tryd.checked) false (laidWorld os) #[.slice Option.none 0 0] rfl (by kernel_rfl) (by kernel_rfl) (by kernel_rfl)
      (OpenSpec.preRow_of_cond 8 hx rfl (fun k hk => by cases hk) (by kernel_rfl) (laid_met os))) ?_
  intro W base args ds gs before hval0 hW _ _ _ hL _ _
  have hval : ∀ (j : Nat) t v, Tryd.f6.params[j]? = some t → args[j]? = some v → Value.okWide Tryd.prog W .any base t v := hval0
  have hW' := hW
  obtain ⟨p, q, hA0, hV, rfl, hfz, hnd⟩ := hW
  have hA : DataW.TrodAll enc Tryd.prog W 0 (fun _ => true) true Tryd.f6.params.toList args.toList ds p := hA0
  rw [Tryd.params6] at hA hval
  obtain ⟨v0, vs0, d0, ds0, p0, q0, hargs, rfl, rfl, h0, r0⟩ := trodAll_cons hA
  obtain ⟨rfl, rfl, rfl⟩ := trodAll_nil r0
  obtain rfl : args = #[v0] := by cases args; simp_all
  have lt0 : ∀ x ∈ p0, x.block < W.heap.size := by obtain ⟨m, hm⟩ := h0; exact DataW.trod_lt m _ _ _ hm
  obtain ⟨cb, hk, hp, tv, gt, hb⟩ := open_code Tryd.underlying43 (by kernel_rfl) Tryd.underlying5 (hval 0 43 v0 rfl rfl) h0
  clear hA0 hval0
  obtain ⟨hG, hS⟩ := globs hL
  refine (walk v0 cb hk hp tv W gt (fun ha => (hb ha).1) (known hL hb) hG hS).mono fun e W' ⟨he, bel⟩ => ?_
  subst he
  have hV' := trodVars_below laidOut bel hV (by
    intro nm hn g t h1 h2
    have hn : nm ∈ ["loop.example/polarisedlight/impl.zero"] := hn
    simp only [List.mem_cons, List.not_mem_nil, or_false] at hn
    subst hn
    · obtain rfl : g = 0 := Option.some.inj (h1.symm.trans (by kernel_rfl)); obtain rfl : t = 36 := Option.some.inj (h2.symm.trans (by kernel_rfl)); exact ⟨by kernel_rfl, of_decide_eq_true (by kernel_rfl)⟩)
  obtain ⟨ga0, rfl⟩ := one_l (trodVars_len hV)
  exact ⟨_, rfl, _, _, _, [], _, _, hW', trodAll_mk1 (shut_bool Tryd.underlying4 _), (trodAll_cons_mk (Below.trod laidOut (by kernel_rfl) (of_decide_eq_true (by kernel_rfl)) h0 bel lt0) trodAll_mk0), hV', bel.frame _, fun h => by cases h⟩

theorem said : Rows.FnFilmSingleSaid :=
  OpenClaim.holds_of_cond 6 Tryd.f6 rfl rfl rfl rfl rfl rfl rfl ⟨rfl, rfl, rfl, rfl, rfl⟩ rfl rfl rfl rfl rfl (by kernel_rfl) Tryd.func6 (by kernel_rfl)
    (of_decide_eq_true (by kernel_rfl)) (by unfold Func.isWrapper; first | (rw [if_pos (by decide +kernel)]; kernel_rfl) | (rw [if_neg (by decide +kernel)]; exact ⟨rfl, rfl⟩))
    (fun os started H enc _ F => by rw [OpenClaim.pre_eq_preRow]; exact lifted os started H enc F)

/-- No parameter wants a stand-in; the program's own looks are off. -/
theorem plain (f : FuncId) (fn : Func) (hf : Tryd.pinned.checked.prog.funcNamed "loop.example/polarisedlight/laws.FnFilmSingle" = some f) (hfn : Tryd.pinned.checked.prog.funcs[f]? = some fn) :
    false = Tryd.pinned.checked.prog.looks [] ∧ ∀ (j : Nat) t, fn.params[j]? = some t → Tryd.pinned.checked.prog.wantsStandIn t = false := by
  obtain rfl : f = 6 := Option.some.inj ((show Tryd.prog.funcNamed "loop.example/polarisedlight/laws.FnFilmSingle" = some 6 by kernel_rfl).symm.trans hf) |>.symm
  obtain rfl : fn = Tryd.f6 := (Option.some.inj (Tryd.func6.symm.trans hfn)).symm
  refine ⟨by kernel_rfl, fun j t ht => ?_⟩
  rw [Tryd.params6] at ht
  have hm := Array.mem_of_getElem? ht
  simp only [List.mem_toArray, List.mem_cons, List.not_mem_nil, or_false] at hm
  have hall : ([43].all fun u => !Tryd.prog.wantsStandIn u) = true := by kernel_rfl
  exact (show Tryd.prog.wantsStandIn t = false by simpa using List.all_eq_true.1 hall t (by simpa using hm))

end Go.Proofs.YtebldmiopbfmgaaDoor.finFnFilmSingle
namespace Go.Proofs.YtebldmiopbfmgaaDoor
/-- The card. -/
theorem fnFilmSingle_card : Rows.FnFilmSingleCardSaid :=
  Claim7.holds_tied_plain_at .later [] _ _ _ _ finFnFilmSingle.said (fun _ h => by cases h) (by kernel_rfl) (fun _ h => by cases h) fnFilmSingle_row_tie rfl ⟨rfl, rfl⟩ (by kernel_rfl) rfl finFnFilmSingle.plain (by kernel_rfl)
#print axioms fnFilmSingle_card
end Go.Proofs.YtebldmiopbfmgaaDoor


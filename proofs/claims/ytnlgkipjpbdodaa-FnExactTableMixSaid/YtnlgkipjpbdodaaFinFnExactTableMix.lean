/-
  The law FnExactTableMix answers true at every input, and each argument reads afterwards as it read before. No conditions.
-/
import Derived.Test.YtnlgkipjpbdodaaRows
import Derived.Test.YtnlgkipjpbdodaaCoFnExactTableMix
import Derived.Test.YtnlgkipjpbdodaaEe
import Derived.WalkKit
import Derived.ProofKit
import Derived.OpenShut
import Derived.ChangeOld
import Derived.Below
import Derived.Carry
namespace Go.Proofs.Ytnlgkipjpbdodaa.finFnExactTableMix
open Go.ChangeShapes Go.WideShapes Go.ChangeAt Go.RowKit Go.Sx
set_option linter.unusedVariables false

theorem own : ownKnob Try.prog.godebug = none := by kernel_rfl
theorem laidOut : laidOutB Try.prog = true := by kernel_rfl
def lst (g : Nat → Int) : Nat → Nat → List Int
  | _, 0 => []
  | k, n + 1 => g k :: lst g (k + 1) n
theorem lst_of : ∀ (l : List Int) (k : Nat) (f : Nat → Int), (∀ i, f (k + i) = l.getD i 0) → l = lst f k l.length
  | [], _, _, _ => rfl
  | x :: r, k, f, h => by
    have h0 : f k = x := by simpa using h 0
    rw [List.length_cons, lst, h0, ← lst_of r (k + 1) f fun i => by have := h (i + 1); rw [show k + (i + 1) = k + 1 + i by omega] at this; simpa using this]
theorem listFn {l : List Int} {n : Nat} (h : l.length = n) : ∃ g : Nat → Int, l = lst g 0 n := ⟨fun i => l.getD i 0, by rw [← h]; exact lst_of l 0 _ fun i => by rw [Nat.zero_add]⟩
/-- The law's call answers true and leaves all that was there. -/
theorem walk (z0 : List Int) (n0 : z0.length = 48) (w0 : ∀ z ∈ z0, I64 z) (z1 : List Int) (n1 : z1.length = 48) (w1 : ∀ z ∈ z1, I64 z) (x2 : Int) (w2 : I64 x2) (x3 : Int) (w3 : I64 x3) (W : World) : Calls Try.prog 4 #[.agg (intVals z0).toArray, .agg (intVals z1).toArray, .int .i64 x2, .int .i64 x3] W fun e w' => e = .returned (.bool true) ∧ Below W.heap.size W w' := by
  obtain ⟨g0, rfl⟩ := listFn n0
  obtain ⟨g1, rfl⟩ := listFn n1
  have hz : ∀ z ∈ (lst g0 0 48) ++ (lst g1 0 48) ++ [x2] ++ [x3], I64 z := by
    intro z hz
    simp only [List.mem_append, or_assoc] at hz
    rcases hz with hz | hz | hz | hz
    · exact w0 z hz
    · exact w1 z hz
    · rw [List.mem_singleton.1 hz]; exact w2
    · rw [List.mem_singleton.1 hz]; exact w3
   
  have e0 : sg_FnExactTableMix.tin = (((lst g0 0 48) ++ (lst g1 0 48) ++ [x2] ++ [x3] : List Int).map fun _ => Ty.int .i64) := by kernel_rfl
  have ht : TypedL sg_FnExactTableMix.tin (intVals ((lst g0 0 48) ++ (lst g1 0 48) ++ [x2] ++ [x3])) := by rw [e0]; exact typed_ints hz
  obtain ⟨h1, h2⟩ := law_FnExactTableMix _ ((show sg_FnExactTableMix.tin = intTs 98 ++ [] by kernel_rfl) ▸ ht)
  have h := law_calls (P := Try.prog) (f := 4) (sig := sg_FnExactTableMix) (F := F_FnExactTableMix) con_FnExactTableMix (by kernel_rfl) (by kernel_rfl) (by kernel_rfl) ht h1 h2 W
  have e : (sg_FnExactTableMix.args.map (CV.val (at0 []) (intVals ((lst g0 0 48) ++ (lst g1 0 48) ++ [x2] ++ [x3])))).toArray = #[.agg (intVals (lst g0 0 48)).toArray, .agg (intVals (lst g1 0 48)).toArray, .int .i64 x2, .int .i64 x3] := by kernel_rfl
  rw [e] at h
  exact h

set_option maxRecDepth 100000 in
theorem lifted (os : Os) (started : os.Started) (H : Type) (enc : TypeId × Value → H) :
    ReturnsInHanded {} Try.checked os 4 .any (Rows.fnExactTableMixSpec.pre6 enc Try.prog Try.f4 Rows.fnExactTableMixRow.domain false) (Rows.fnExactTableMixSpec.post enc Try.prog Try.f4 false true false false) := by
  refine returnsInHanded_of_change (C := Try.checked) own started (by kernel_rfl) Try.func4
    (ChangeSpec.witness6 (enc := enc) (C := Try.checked) false ⟨#[], #[.agg (Array.replicate 48 (.int .i64 0)), .agg (Array.replicate 48 (.int .i64 0)), .int .i64 0, .int .i64 0], []⟩ 8 (by kernel_rfl) (by kernel_rfl) (by kernel_rfl) (by kernel_rfl)) ?_
  intro W base args ds gs before hval0 hW hcnd _
  have hval : ∀ (j : Nat) t v, Try.f4.params[j]? = some t → args[j]? = some v → Value.okWide Try.prog W .any base t v := hval0
  have hW' := hW
  obtain ⟨p, q, hA0, hV, rfl, hfz, hnd⟩ := hW
  have hA : DataW.TrodAll enc Try.prog W 0 (fun _ => true) true Try.f4.params.toList args.toList ds p := hA0
  rw [Try.params4] at hA hval
  obtain ⟨v0, vs0, d0, ds0, p0, q0, hargs, rfl, rfl, h0, r0⟩ := trodAll_cons hA
  obtain ⟨v1, vs1, d1, ds1, p1, q1, rfl, rfl, rfl, h1, r1⟩ := trodAll_cons r0
  obtain ⟨v2, vs2, d2, ds2, p2, q2, rfl, rfl, rfl, h2, r2⟩ := trodAll_cons r1
  obtain ⟨v3, vs3, d3, ds3, p3, q3, rfl, rfl, rfl, h3, r3⟩ := trodAll_cons r2
  obtain ⟨rfl, rfl, rfl⟩ := trodAll_nil r3
  obtain rfl : args = #[v0, v1, v2, v3] := by cases args; simp_all
  obtain ⟨rfl, rfl⟩ := trodVars_none hV
  have lt0 : ∀ x ∈ p0, x.block < W.heap.size := by obtain ⟨m, hm⟩ := h0; exact DataW.trod_lt m _ _ _ hm
  obtain ⟨z0, rfl, n0, w0⟩ := agg_ints (hval 0 26 v0 rfl rfl) (by kernel_rfl) (ts := List.replicate 48 3) (by kernel_rfl) (by kernel_rfl)
  have n0 : z0.length = 48 := n0.trans (by kernel_rfl)
  have lt1 : ∀ x ∈ p1, x.block < W.heap.size := by obtain ⟨m, hm⟩ := h1; exact DataW.trod_lt m _ _ _ hm
  obtain ⟨z1, rfl, n1, w1⟩ := agg_ints (hval 1 26 v1 rfl rfl) (by kernel_rfl) (ts := List.replicate 48 3) (by kernel_rfl) (by kernel_rfl)
  have n1 : z1.length = 48 := n1.trans (by kernel_rfl)
  obtain ⟨x2, rfl, rfl, rfl, wf2⟩ := open_int Try.underlying3 (hval 2 3 v2 rfl rfl) h2
  have w2 : I64 x2 := int_wf wf2
  obtain ⟨x3, rfl, rfl, rfl, wf3⟩ := open_int Try.underlying3 (hval 3 3 v3 rfl rfl) h3
  have w3 : I64 x3 := int_wf wf3
  clear hA0 hval0
  simp only [List.append_nil] at hW'
  refine (walk z0 n0 w0 z1 n1 w1 x2 w2 x3 w3 W).mono fun e W' ⟨he, bel⟩ => ?_
  subst he
  exact ⟨_, rfl, _, _, _, [], _, [], hW', trodAll_mk1 (shut_bool Try.underlying4 _), (trodAll_cons_mk (Below.trod laidOut (by kernel_rfl) (of_decide_eq_true (by kernel_rfl)) h0 bel lt0) (trodAll_cons_mk (Below.trod laidOut (by kernel_rfl) (of_decide_eq_true (by kernel_rfl)) h1 bel lt1) (trodAll_cons_mk (shut_int Try.underlying3 wf2) (trodAll_cons_mk (shut_int Try.underlying3 wf3) trodAll_mk0)))), rfl, bel.frame _, fun h => by cases h⟩

theorem over : Rows.fnExactTableMixRow.holds Try.pinned (OpenSpec.ofChange Rows.fnExactTableMixSpec) :=
  OpenClaim.holds_of_wide 4 Try.f4 rfl rfl rfl rfl rfl rfl rfl ⟨rfl, rfl, rfl, rfl, rfl⟩ rfl rfl rfl rfl rfl (by kernel_rfl) Try.func4 (by kernel_rfl)
    (of_decide_eq_true (by kernel_rfl)) (by unfold Func.isWrapper; first | (rw [if_pos (by decide +kernel)]; kernel_rfl) | (rw [if_neg (by decide +kernel)]; exact ⟨rfl, rfl⟩))
    (fun os started H enc _ => lifted os started H enc)

end Go.Proofs.Ytnlgkipjpbdodaa.finFnExactTableMix
namespace Go.Proofs.Ytnlgkipjpbdodaa
/-- The statement. -/
theorem fnExactTableMix_holds : Rows.FnExactTableMixSaid := finFnExactTableMix.over
#print axioms fnExactTableMix_holds
end Go.Proofs.Ytnlgkipjpbdodaa


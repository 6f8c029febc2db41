/-
  The law FnExactFibreBeat answers true at every input, and each argument reads afterwards as it read before. No conditions.
-/
import Derived.Test.YtacmlnomehkjcaaRows
import Derived.Test.YtacmlnomehkjcaaCoFnExactFibreBeat
import Derived.Test.YtacmlnomehkjcaaEd
import Derived.WalkKit
import Derived.ProofKit
import Derived.OpenShut
import Derived.ChangeOld
import Derived.Below
import Derived.Carry
namespace Go.Proofs.Ytacmlnomehkjcaa.finFnExactFibreBeat
open Go.ChangeShapes Go.WideShapes Go.ChangeAt Go.RowKit Go.Sx
set_option linter.unusedVariables false

theorem own : ownKnob Try.prog.godebug = none := by kernel_rfl
theorem laidOut : laidOutB Try.prog = true := by kernel_rfl

theorem list4 {l : List Int} (h : l.length = 4) : ∃ x0 x1 x2 x3, l = [x0, x1, x2, x3] := by
  match l, h with
  | [x0, x1, x2, x3], _ => exact ⟨x0, x1, x2, x3, rfl⟩

/-- The law's call answers true and leaves all that was there. -/
theorem walk (z0 : List Int) (n0 : z0.length = 4) (w0 : ∀ z ∈ z0, I64 z) (W : World) : Calls Try.prog 3 #[.agg (intVals z0).toArray] W fun e w' => e = .returned (.bool true) ∧ Below W.heap.size W w' := by
  obtain ⟨x0_0, x0_1, x0_2, x0_3, rfl⟩ := list4 n0
  have hz : ∀ z ∈ [x0_0, x0_1, x0_2, x0_3], I64 z := by
    intro z hz
    skip
    skip
    · exact w0 z hz
   
  have ht : TypedL sg_FnExactFibreBeat.tin (intVals ([x0_0, x0_1, x0_2, x0_3])) := typed_ints hz
  obtain ⟨h1, h2⟩ := law_FnExactFibreBeat _ ht
  have h := law_calls (P := Try.prog) (f := 3) (sig := sg_FnExactFibreBeat) (F := F_FnExactFibreBeat) con_FnExactFibreBeat (by kernel_rfl) (by kernel_rfl) (by kernel_rfl) ht h1 h2 W
  have e : (sg_FnExactFibreBeat.args.map (CV.val (at0 []) (intVals ([x0_0, x0_1, x0_2, x0_3])))).toArray = #[.agg (intVals [x0_0, x0_1, x0_2, x0_3]).toArray] := by kernel_rfl
  rw [e] at h
  exact h

set_option maxRecDepth 100000 in
theorem lifted (os : Os) (started : os.Started) (H : Type) (enc : TypeId × Value → H) :
    ReturnsInHanded {} Try.checked os 3 .any (Rows.fnExactFibreBeatSpec.pre6 enc Try.prog Try.f3 Rows.fnExactFibreBeatRow.domain false) (Rows.fnExactFibreBeatSpec.post enc Try.prog Try.f3 false true false false) := by
  refine returnsInHanded_of_change (C := Try.checked) own started (by kernel_rfl) Try.func3
    (ChangeSpec.witness6 (enc := enc) (C := Try.checked) false ⟨#[], #[.agg (Array.replicate 4 (.int .i64 0))], []⟩ 8 (by kernel_rfl) (by kernel_rfl) (by kernel_rfl) (by kernel_rfl)) ?_
  intro W base args ds gs before hval0 hW hcnd _
  have hval : ∀ (j : Nat) t v, Try.f3.params[j]? = some t → args[j]? = some v → Value.okWide Try.prog W .any base t v := hval0
  have hW' := hW
  obtain ⟨p, q, hA0, hV, rfl, hfz, hnd⟩ := hW
  have hA : DataW.TrodAll enc Try.prog W 0 (fun _ => true) true Try.f3.params.toList args.toList ds p := hA0
  rw [Try.params3] at hA hval
  obtain ⟨v0, vs0, d0, ds0, p0, q0, hargs, rfl, rfl, h0, r0⟩ := trodAll_cons hA
  obtain ⟨rfl, rfl, rfl⟩ := trodAll_nil r0
  obtain rfl : args = #[v0] := by cases args; simp_all
  obtain ⟨rfl, rfl⟩ := trodVars_none hV
  have lt0 : ∀ x ∈ p0, x.block < W.heap.size := by obtain ⟨m, hm⟩ := h0; exact DataW.trod_lt m _ _ _ hm
  obtain ⟨z0, rfl, n0, w0⟩ := agg_ints (hval 0 23 v0 rfl rfl) (by kernel_rfl) (ts := List.replicate 4 3) (by kernel_rfl) (by kernel_rfl)
  have n0 : z0.length = 4 := n0.trans (by kernel_rfl)
  clear hA0 hval0
  simp only [List.append_nil] at hW'
  refine (walk z0 n0 w0 W).mono fun e W' ⟨he, bel⟩ => ?_
  subst he
  exact ⟨_, rfl, _, _, _, [], _, [], hW', trodAll_mk1 (shut_bool Try.underlying4 _), (trodAll_cons_mk (Below.trod laidOut (by kernel_rfl) (of_decide_eq_true (by kernel_rfl)) h0 bel lt0) trodAll_mk0), rfl, bel.frame _, fun h => by cases h⟩

theorem over : Rows.fnExactFibreBeatRow.holds Try.pinned (OpenSpec.ofChange Rows.fnExactFibreBeatSpec) :=
  OpenClaim.holds_of_wide 3 Try.f3 rfl rfl rfl rfl rfl rfl rfl ⟨rfl, rfl, rfl, rfl, rfl⟩ rfl rfl rfl rfl rfl (by kernel_rfl) Try.func3 (by kernel_rfl)
    (of_decide_eq_true (by kernel_rfl)) (by unfold Func.isWrapper; first | (rw [if_pos (by decide +kernel)]; kernel_rfl) | (rw [if_neg (by decide +kernel)]; exact ⟨rfl, rfl⟩))
    (fun os started H enc _ => lifted os started H enc)

end Go.Proofs.Ytacmlnomehkjcaa.finFnExactFibreBeat
namespace Go.Proofs.Ytacmlnomehkjcaa
/-- The statement. -/
theorem fnExactFibreBeat_holds : Rows.FnExactFibreBeatSaid := finFnExactFibreBeat.over
#print axioms fnExactFibreBeat_holds
end Go.Proofs.Ytacmlnomehkjcaa


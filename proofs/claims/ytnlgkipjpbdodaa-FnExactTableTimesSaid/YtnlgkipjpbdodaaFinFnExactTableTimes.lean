/-
  The law FnExactTableTimes answers true at every input, and each argument reads afterwards as it read before. No conditions.
-/
import Derived.Test.YtnlgkipjpbdodaaRows
import Derived.Test.YtnlgkipjpbdodaaCoFnExactTableTimes
import Derived.Test.YtnlgkipjpbdodaaEe
import Derived.WalkKit
import Derived.ProofKit
import Derived.OpenShut
import Derived.ChangeOld
import Derived.Below
import Derived.Carry
namespace Go.Proofs.Ytnlgkipjpbdodaa.finFnExactTableTimes
open Go.ChangeShapes Go.WideShapes Go.ChangeAt Go.RowKit Go.Sx
set_option linter.unusedVariables false

theorem own : ownKnob Try.prog.godebug = none := by kernel_rfl
theorem laidOut : laidOutB Try.prog = true := by kernel_rfl

def lst (g : Nat → Int) : Nat → Nat → List Int
  | _, 0 => []
  | k, n + 1 => g k :: lst g (k + 1) n
theorem lst_of : ∀ (l : List Int) (k : Nat) (f : Nat → Int), (∀ i, f (k + i) = l.getD i 0) → l = lst f k l.length
  | [], _, _, _ => rfl
  | x :: r, k, f, h => by
    have h0 : f k = x := by simpa using h 0
    rw [List.length_cons, lst, h0, ← lst_of r (k + 1) f fun i => by have := h (i + 1); rw [show k + (i + 1) = k + 1 + i by omega] at this; simpa using this]
theorem listFn {l : List Int} {n : Nat} (h : l.length = n) : ∃ g : Nat → Int, l = lst g 0 n := ⟨fun i => l.getD i 0, by rw [← h]; exact lst_of l 0 _ fun i => by rw [Nat.zero_add]⟩

/-- The law's call answers true and leaves all that was there. -/
theorem walk (z0 : List Int) (n0 : z0.length = 48) (w0 : ∀ z ∈ z0, I64 z) (z1 : List Int) (n1 : z1.length = 48) (w1 : ∀ z ∈ z1, I64 z) (W : World) : Calls Try.prog 3 #[.agg (intVals z0).toArray, .agg (intVals z1).toArray] W fun e w' => e = .returned (.bool true) ∧ Below W.heap.size W w' := by
  obtain ⟨g0, rfl⟩ := listFn n0
  obtain ⟨g1, rfl⟩ := listFn n1
  have hz : ∀ z ∈ (lst g0 0 48) ++ (lst g1 0 48), I64 z := by
    intro z hz
    simp only [List.mem_append] at hz
    rcases hz with hz | hz
    · exact w0 z hz
    · exact w1 z hz
   
  have e0 : sg_FnExactTableTimes.tin = (((lst g0 0 48) ++ (lst g1 0 48) : List Int).map fun _ => Ty.int .i64) := by kernel_rfl
  have ht : TypedL sg_FnExactTableTimes.tin (intVals ((lst g0 0 48) ++ (lst g1 0 48))) := by rw [e0]; exact typed_ints hz
  obtain ⟨h1, h2⟩ := law_FnExactTableTimes _ ((show sg_FnExactTableTimes.tin = intTs 96 ++ [] by kernel_rfl) ▸ ht)
  have h := law_calls (P := Try.prog) (f := 3) (sig := sg_FnExactTableTimes) (F := F_FnExactTableTimes) con_FnExactTableTimes (by kernel_rfl) (by kernel_rfl) (by kernel_rfl) ht h1 h2 W
  have e : (sg_FnExactTableTimes.args.map (CV.val (at0 []) (intVals ((lst g0 0 48) ++ (lst g1 0 48))))).toArray = #[.agg (intVals (lst g0 0 48)).toArray, .agg (intVals (lst g1 0 48)).toArray] := by kernel_rfl
  rw [e] at h
  exact h

set_option maxRecDepth 100000 in
theorem lifted (os : Os) (started : os.Started) (H : Type) (enc : TypeId × Value → H) :
    ReturnsInHanded {} Try.checked os 3 .any (Rows.fnExactTableTimesSpec.pre6 enc Try.prog Try.f3 Rows.fnExactTableTimesRow.domain false) (Rows.fnExactTableTimesSpec.post enc Try.prog Try.f3 false true false false) := by
  refine returnsInHanded_of_change (C := Try.checked) own started (by kernel_rfl) Try.func3
    (ChangeSpec.witness6 (enc := enc) (C := Try.checked) false ⟨#[], #[.agg (Array.replicate 48 (.int .i64 0)), .agg (Array.replicate 48 (.int .i64 0))], []⟩ 8 (by kernel_rfl) (by kernel_rfl) (by kernel_rfl) (by kernel_rfl)) ?_
  intro W base args ds gs before hval0 hW hcnd _
  have hval : ∀ (j : Nat) t v, Try.f3.params[j]? = some t → args[j]? = some v → Value.okWide Try.prog W .any base t v := hval0
  have hW' := hW
  obtain ⟨p, q, hA0, hV, rfl, hfz, hnd⟩ := hW
  have hA : DataW.TrodAll enc Try.prog W 0 (fun _ => true) true Try.f3.params.toList args.toList ds p := hA0
  rw [Try.params3] at hA hval
  obtain ⟨v0, vs0, d0, ds0, p0, q0, hargs, rfl, rfl, h0, r0⟩ := trodAll_cons hA
  obtain ⟨v1, vs1, d1, ds1, p1, q1, rfl, rfl, rfl, h1, r1⟩ := trodAll_cons r0
  obtain ⟨rfl, rfl, rfl⟩ := trodAll_nil r1
  obtain rfl : args = #[v0, v1] := by cases args; simp_all
  obtain ⟨rfl, rfl⟩ := trodVars_none hV
  have lt0 : ∀ x ∈ p0, x.block < W.heap.size := by obtain ⟨m, hm⟩ := h0; exact DataW.trod_lt m _ _ _ hm
  obtain ⟨z0, rfl, n0, w0⟩ := agg_ints (hval 0 26 v0 rfl rfl) (by kernel_rfl) (ts := List.replicate 48 3) (by kernel_rfl) (by kernel_rfl)
  have n0 : z0.length = 48 := n0.trans (by kernel_rfl)
  have lt1 : ∀ x ∈ p1, x.block < W.heap.size := by obtain ⟨m, hm⟩ := h1; exact DataW.trod_lt m _ _ _ hm
  obtain ⟨z1, rfl, n1, w1⟩ := agg_ints (hval 1 26 v1 rfl rfl) (by kernel_rfl) (ts := List.replicate 48 3) (by kernel_rfl) (by kernel_rfl)
  have n1 : z1.length = 48 := n1.trans (by kernel_rfl)
  clear hA0 hval0
  simp only [List.append_nil] at hW'
  refine (walk z0 n0 w0 z1 n1 w1 W).mono fun e W' ⟨he, bel⟩ => ?_
  subst he
  exact ⟨_, rfl, _, _, _, [], _, [], hW', trodAll_mk1 (shut_bool Try.underlying4 _), (trodAll_cons_mk (Below.trod laidOut (by kernel_rfl) (of_decide_eq_true (by kernel_rfl)) h0 bel lt0) (trodAll_cons_mk (Below.trod laidOut (by kernel_rfl) (of_decide_eq_true (by kernel_rfl)) h1 bel lt1) trodAll_mk0)), rfl, bel.frame _, fun h => by cases h⟩

theorem over : Rows.fnExactTableTimesRow.holds Try.pinned (OpenSpec.ofChange Rows.fnExactTableTimesSpec) :=
  OpenClaim.holds_of_wide 3 Try.f3 rfl rfl rfl rfl rfl rfl rfl ⟨rfl, rfl, rfl, rfl, rfl⟩ rfl rfl rfl rfl rfl (by kernel_rfl) Try.func3 (by kernel_rfl)
    (of_decide_eq_true (by kernel_rfl)) (by unfold Func.isWrapper; first | (rw [if_pos (by decide +kernel)]; kernel_rfl) | (rw [if_neg (by decide +kernel)]; exact ⟨rfl, rfl⟩))
    (fun os started H enc _ => lifted os started H enc)

end Go.Proofs.Ytnlgkipjpbdodaa.finFnExactTableTimes
namespace Go.Proofs.Ytnlgkipjpbdodaa
/-- The statement. -/
theorem fnExactTableTimes_holds : Rows.FnExactTableTimesSaid := finFnExactTableTimes.over
#print axioms fnExactTableTimes_holds
end Go.Proofs.Ytnlgkipjpbdodaa


/-
  The law FnTableApply answers true at every input, and each argument reads afterwards as it read before. No conditions.
-/
import Derived.Test.YtofdmonjagkgeaaRows
import Derived.Test.YtofdmonjagkgeaaCoFnTableApply
import Derived.Test.YtofdmonjagkgeaaEe
import Derived.WalkKit
import Derived.ProofKit
import Derived.OpenShut
import Derived.ChangeOld
import Derived.Below
import Derived.Carry
namespace Go.Proofs.Ytofdmonjagkgeaa.finFnTableApply
open Go.ChangeShapes Go.WideShapes Go.ChangeAt Go.RowKit Go.Sx
set_option linter.unusedVariables false

theorem own : ownKnob Try.prog.godebug = none := by kernel_rfl
theorem laidOut : laidOutB Try.prog = true := by kernel_rfl
def lst (g : Nat → Int) : Nat → Nat → List Int
  | _, 0 => []
  | k, n + 1 => g k :: lst g (k + 1) n
theorem lst_of : ∀ (l : List Int) (k : Nat) (f : Nat → Int), (∀ i, f (k + i) = l.getD i 0) → l = lst f k l.length
  | [], _, _, _ => rfl
  | x :: r, k, f, h => by
    have h0 : f k = x := by simpa using h 0
    rw [List.length_cons, lst, h0, ← lst_of r (k + 1) f fun i => by have := h (i + 1); rw [show k + (i + 1) = k + 1 + i by omega] at this; simpa using this]
theorem listFn {l : List Int} {n : Nat} (h : l.length = n) : ∃ g : Nat → Int, l = lst g 0 n := ⟨fun i => l.getD i 0, by rw [← h]; exact lst_of l 0 _ fun i => by rw [Nat.zero_add]⟩
/-- The law's call answers true and leaves all that was there. -/
theorem walk (v0 : Value) (cb : CodeB) (hk : CodeOk cb) (hp : (lawF cb).pre [v0]) (tv : HasTy .sl v0) (W : World) (gt : GlbOk cb.tail W) (hb : cb.any = true → cb.blk < W.heap.size) (hK : Known cb (glb ++ cb.tail)) : Calls Try.prog 4 #[v0] W fun e w' => e = .returned (.bool true) ∧ Below W.heap.size W w' := by
  have h := law_calls_code (P := Try.prog) (glb := glb) (f := 4) (sig := sg_FnTableApply) (con_FnTableApply hk hK) (by kernel_rfl) (by kernel_rfl) (by kernel_rfl) (by kernel_rfl) tv hp W glbOk_nil globs_nil gt hb
  have e : (sg_FnTableApply.args.map (CV.val (at0 []) [v0])).toArray = #[v0] := by kernel_rfl
  rw [e] at h
  exact h

set_option maxRecDepth 100000 in
theorem lifted (os : Os) (started : os.Started) (H : Type) (enc : TypeId × Value → H) :
    ReturnsInHanded {} Try.checked os 4 .any (Rows.fnTableApplySpec.pre6 enc Try.prog Try.f4 Rows.fnTableApplyRow.domain false) (Rows.fnTableApplySpec.post enc Try.prog Try.f4 false true false false) := by
  refine returnsInHanded_of_change (C := Try.checked) own started (by kernel_rfl) Try.func4
    (ChangeSpec.witness6 (enc := enc) (C := Try.checked) false ⟨#[], #[.slice Option.none 0 0], []⟩ 8 (by kernel_rfl) (by kernel_rfl) (by kernel_rfl) (by kernel_rfl)) ?_
  intro W base args ds gs before hval0 hW hcnd _
  have hval : ∀ (j : Nat) t v, Try.f4.params[j]? = some t → args[j]? = some v → Value.okWide Try.prog W .any base t v := hval0
  have hW' := hW
  obtain ⟨p, q, hA0, hV, rfl, hfz, hnd⟩ := hW
  have hA : DataW.TrodAll enc Try.prog W 0 (fun _ => true) true Try.f4.params.toList args.toList ds p := hA0
  rw [Try.params4] at hA hval
  obtain ⟨v0, vs0, d0, ds0, p0, q0, hargs, rfl, rfl, h0, r0⟩ := trodAll_cons hA
  obtain ⟨rfl, rfl, rfl⟩ := trodAll_nil r0
  obtain rfl : args = #[v0] := by cases args; simp_all
  obtain ⟨rfl, rfl⟩ := trodVars_none hV
  have lt0 : ∀ x ∈ p0, x.block < W.heap.size := by obtain ⟨m, hm⟩ := h0; exact DataW.trod_lt m _ _ _ hm
  obtain ⟨cb, hk, hp, tv, gt, hb⟩ := open_code Try.underlying22 (by kernel_rfl) Try.underlying5 (hval 0 22 v0 rfl rfl) h0
  clear hA0 hval0
  simp only [List.append_nil] at hW'
  refine (walk v0 cb hk hp tv W gt (fun ha => (hb ha).1) (tail_known fun _ _ k a hm => by cases hm)).mono fun e W' ⟨he, bel⟩ => ?_
  subst he
  exact ⟨_, rfl, _, _, _, [], _, [], hW', trodAll_mk1 (shut_bool Try.underlying4 _), (trodAll_cons_mk (Below.trod laidOut (by kernel_rfl) (of_decide_eq_true (by kernel_rfl)) h0 bel lt0) trodAll_mk0), rfl, bel.frame _, fun h => by cases h⟩

theorem over : Rows.fnTableApplyRow.holds Try.pinned (OpenSpec.ofChange Rows.fnTableApplySpec) :=
  OpenClaim.holds_of_wide 4 Try.f4 rfl rfl rfl rfl rfl rfl rfl ⟨rfl, rfl, rfl, rfl, rfl⟩ rfl rfl rfl rfl rfl (by kernel_rfl) Try.func4 (by kernel_rfl)
    (of_decide_eq_true (by kernel_rfl)) (by unfold Func.isWrapper; first | (rw [if_pos (by decide +kernel)]; kernel_rfl) | (rw [if_neg (by decide +kernel)]; exact ⟨rfl, rfl⟩))
    (fun os started H enc _ => lifted os started H enc)

end Go.Proofs.Ytofdmonjagkgeaa.finFnTableApply
namespace Go.Proofs.Ytofdmonjagkgeaa
/-- The statement. -/
theorem fnTableApply_holds : Rows.FnTableApplySaid := finFnTableApply.over
#print axioms fnTableApply_holds
end Go.Proofs.Ytofdmonjagkgeaa


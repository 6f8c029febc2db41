/- What the functions reckon, by their trees. -/
import Derived.Test.YtebldmiopbfmgaaDoorEh
import Derived.KernelRfl
namespace Go.Sx
open Go
set_option maxRecDepth 100000
set_option linter.unusedSimpArgs false
set_option linter.unusedVariables false

def tr_size : Tr :=
  (.ret [(.mx false .i64 (.var 0) (.ar .sub .i64 (.int .i64 0) (.var 0)))])
def Fs_size : List Fun1 := []
def F_size : Fun1 := ofTree Fs_size tr_size

def tr_within : Tr :=
  (.ret [(.ite (.cmp .geq (.var 0) (.var 1)) (.cmp .leq (.var 0) (.var 2)) (.bool false))])
def Fs_within : List Fun1 := []
def F_within : Fun1 := ofTree Fs_within tr_within
def G_within : Fun1 := ⟨fun _ => True, fun ins => [.bool (inRg (i0 ins 0) (i0 ins 1) (i0 ins 2))]⟩
theorem as_within (ins : List Value) (ht : TypedL [.int .i64, .int .i64, .int .i64] ins) (_ : G_within.pre ins) : F_within.pre ins ∧ F_within.out ins = G_within.out ins := by
  obtain ⟨a, b, c, rfl, _, _, _⟩ := ints3 ht
  refine ⟨trivial, ?_⟩
  show [if (decide (a ≥ b)) = true then Value.bool (decide (a ≤ c)) else Value.bool false] = [Value.bool (decide (b ≤ a) && decide (a ≤ c))]
  by_cases h : b ≤ a <;> simp [h]

def tr_l6In : Tr :=
  (.ret [(.ite (.cmp .geq (.var 0) (.var 1)) (.cmp .leq (.var 0) (.var 2)) (.bool false))])
def Fs_l6In : List Fun1 := []
def F_l6In : Fun1 := ofTree Fs_l6In tr_l6In
def G_l6In : Fun1 := ⟨fun _ => True, fun ins => [.bool (inRg (i0 ins 0) (i0 ins 1) (i0 ins 2))]⟩
theorem as_l6In (ins : List Value) (ht : TypedL [.int .i64, .int .i64, .int .i64] ins) (_ : G_l6In.pre ins) : F_l6In.pre ins ∧ F_l6In.out ins = G_l6In.out ins := by
  obtain ⟨a, b, c, rfl, _, _, _⟩ := ints3 ht
  refine ⟨trivial, ?_⟩
  show [if (decide (a ≥ b)) = true then Value.bool (decide (a ≤ c)) else Value.bool false] = [Value.bool (decide (b ≤ a) && decide (a ≤ c))]
  by_cases h : b ≤ a <;> simp [h]
def A_l6In : AF := aAny 1
theorem aok_l6In {cb : CodeB} : AOK cb G_l6In A_l6In := aAny_ok (fun _ => trivial) (fun ins => by rfl)

def tr_l2In : Tr :=
  (.evs [.call 0 [(.var 0), (.int .i64 (-2000000000)), (.int .i64 2000000000)] none 1]
  (.ret [(.var 1)]))
def Fs_l2In : List Fun1 := [G_l6In]
def F_l2In : Fun1 := ofTree Fs_l2In tr_l2In
def G_l2In : Fun1 := ⟨fun _ => True, fun ins => [.bool (inR (i0 ins 0))]⟩
theorem as_l2In (ins : List Value) (ht : TypedL [.int .i64] ins) (_ : G_l2In.pre ins) : F_l2In.pre ins ∧ F_l2In.out ins = G_l2In.out ins := by
  obtain ⟨a, rfl, _⟩ := ints1 ht
  exact ⟨⟨⟨trivial, trivial⟩, trivial⟩, rfl⟩

def tr_divisor : Tr :=
  (.lp 0 [(.var 0), (.var 1)] [.int .i64, .int .i64]
  (.ite (.cmp .neq (.var 3) (.int .i64 0))
   (.evs [.need [(.cmp .neq (.var 3) (.int .i64 0))]]
    (.next 0 [(.var 3), (.ar .rem .i64 (.var 2) (.var 3))]))
   (.ret [(.var 2)])))
def Fs_divisor : List Fun1 := []
def F_divisor : Fun1 := ⟨fun _ => True, fun ins => [.int .i64 (euc (i0 ins 0) (i0 ins 1))]⟩
theorem sat_divisor (P : Program) (ins : List Value) (K : List Value → Prop) (ht : TypedL [.int .i64, .int .i64] ins) (_ : F_divisor.pre ins) (hK : K (F_divisor.out ins)) : sat P (specsOf Fs_divisor) tr_divisor ins [] K := by
  obtain ⟨a, b, rfl, wa, wb⟩ := ints2 ht
  refine ⟨fun vs => ∃ x y, vs = [.int .i64 x, .int .i64 y] ∧ euc x y = euc a b, fun vs => (toI (vs.getD 1 undef)).natAbs, ⟨a, b, rfl, rfl⟩, ?_⟩
  rintro vs hty ⟨x, y, rfl, he⟩
  refine ⟨fun hc => ?_, fun hc => ?_⟩
  · have hy : y ≠ 0 := by simpa [ev, cmpI] using hc
    refine ⟨fun e he' => by rw [List.mem_singleton.1 he']; exact hc, ⟨_, _, rfl, ?_⟩, ?_⟩
    · rw [← he, euc_step hy]; rfl
    · show (x.tmod y).natAbs < y.natAbs
      rw [Int.natAbs_tmod]
      exact Nat.mod_lt _ (by omega)
  · have hy : y = 0 := by simpa [ev, cmpI] using hc
    subst hy
    rw [euc_zero] at he
    show K [.int .i64 x]
    rw [he]
    exact hK

def tr_l2Gcd : Tr :=
  (.lp 0 [(.var 0), (.var 1)] [.int .i64, .int .i64]
  (.ite (.cmp .neq (.var 3) (.int .i64 0))
   (.evs [.need [(.cmp .neq (.var 3) (.int .i64 0))]]
    (.next 0 [(.var 3), (.ar .rem .i64 (.var 2) (.var 3))]))
   (.ret [(.mx false .i64 (.var 2) (.ar .sub .i64 (.int .i64 0) (.var 2)))])))
def Fs_l2Gcd : List Fun1 := []
def F_l2Gcd : Fun1 := ⟨fun _ => True, fun ins => [.int .i64 (mxI false (euc (i0 ins 0) (i0 ins 1)) (IntKind.i64.wrap (0 - euc (i0 ins 0) (i0 ins 1))))]⟩
theorem sat_l2Gcd (P : Program) (ins : List Value) (K : List Value → Prop) (ht : TypedL [.int .i64, .int .i64] ins) (_ : F_l2Gcd.pre ins) (hK : K (F_l2Gcd.out ins)) : sat P (specsOf Fs_l2Gcd) tr_l2Gcd ins [] K := by
  obtain ⟨a, b, rfl, wa, wb⟩ := ints2 ht
  refine ⟨fun vs => ∃ x y, vs = [.int .i64 x, .int .i64 y] ∧ euc x y = euc a b, fun vs => (toI (vs.getD 1 undef)).natAbs, ⟨a, b, rfl, rfl⟩, ?_⟩
  rintro vs hty ⟨x, y, rfl, he⟩
  refine ⟨fun hc => ?_, fun hc => ?_⟩
  · have hy : y ≠ 0 := by simpa [ev, cmpI] using hc
    refine ⟨fun e he' => by rw [List.mem_singleton.1 he']; exact hc, ⟨_, _, rfl, ?_⟩, ?_⟩
    · rw [← he, euc_step hy]; rfl
    · show (x.tmod y).natAbs < y.natAbs
      rw [Int.natAbs_tmod]
      exact Nat.mod_lt _ (by omega)
  · have hy : y = 0 := by simpa [ev, cmpI] using hc
    subst hy
    rw [euc_zero] at he
    show K [.int .i64 (mxI false x (IntKind.i64.wrap (0 - x)))]
    rw [he]
    exact hK

def tr_sFracValid : Tr :=
  (.evs [.call 0 [(.var 0)] none 1,
    .call 0 [(.var 1)] (some (.var 3)) 1,
    .call 1 [(.var 2), (.int .i64 1), (.int .i64 2000000000)] (some (.ite (.var 3) (.var 4) (.bool false))) 1,
    .call 2 [(.var 2), (.var 0)] (some (.ite (.ite (.var 3) (.var 4) (.bool false)) (.var 5) (.bool false))) 1,
    .call 2 [(.var 6), (.var 1)] (some (.ite (.ite (.var 3) (.var 4) (.bool false)) (.var 5) (.bool false))) 1]
  (.ret [(.ite (.ite (.ite (.var 3) (.var 4) (.bool false)) (.var 5) (.bool false)) (.cmp .eql (.var 7) (.int .i64 1)) (.bool false))]))
def Fs_sFracValid : List Fun1 := [G_l2In, G_l6In, F_l2Gcd]
def F_sFracValid : Fun1 := ofTree Fs_sFracValid tr_sFracValid
def G_sFracValid : Fun1 := ⟨fun _ => True, fun ins => [.bool (validI (i0 ins 0) (i0 ins 1) (i0 ins 2))]⟩
theorem as_sFracValid (ins : List Value) (ht : TypedL [.int .i64, .int .i64, .int .i64] ins) (_ : G_sFracValid.pre ins) : F_sFracValid.pre ins ∧ F_sFracValid.out ins = G_sFracValid.out ins := by
  obtain ⟨a, b, c, rfl, wa, wb, wc⟩ := ints3 ht
  have key : inR a = true → inR b = true → inRg c 1 2000000000 = true → mxI false (euc c a) (IntKind.i64.wrap (0 - euc c a)) = (Nat.gcd c.natAbs a.natAbs : Nat) ∧
      mxI false (euc (Nat.gcd c.natAbs a.natAbs : Nat) b) (IntKind.i64.wrap (0 - euc (Nat.gcd c.natAbs a.natAbs : Nat) b)) = (gcd3 a b c : Nat) := by
    intro ha hb hc
    simp only [inR, inRg, Bool.and_eq_true, decide_eq_true_eq] at ha hb hc
    have h0 : Nat.gcd c.natAbs a.natAbs ≤ c.natAbs := Nat.gcd_le_left _ (by omega)
    have hp : 0 < Nat.gcd c.natAbs a.natAbs := Nat.gcd_pos_of_pos_left _ (by omega)
    refine ⟨gcd_small (by omega), ?_⟩
    have h2 : Nat.gcd ((Nat.gcd c.natAbs a.natAbs : Nat) : Int).natAbs b.natAbs ≤ Nat.gcd c.natAbs a.natAbs := Nat.gcd_le_left _ hp
    rw [gcd_small (by omega), Int.natAbs_natCast, gcd3_alt]
  simp only [F_sFracValid, G_sFracValid, tr_sFracValid, Fs_sFracValid, G_l2In, G_l6In, F_l2Gcd, validI, ofTree, okT, okE, evalT, evalE, evsIn, ev, callF, preF, hasF, needs, i0, b0, toI_int, toB_bool, List.getD_cons_zero, List.getD_cons_succ, List.cons_append, List.nil_append, List.replicate, if_true, if_false, Bool.false_eq_true, and_true, true_and, implies_true, forall_const, false_implies, cmpI, Bool.not_true, Bool.not_false, Bool.true_and, Bool.false_and, Bool.and_true, Bool.and_false, reduceIte, List.append_nil, reduceCtorEq]
  cases ha : inR a
  · simp [ha]
  · cases hb : inR b
    · simp [ha, hb]
    · cases hc : inRg c 1 2000000000
      · simp [ha, hb, hc]
      · obtain ⟨k1, k2⟩ := key ha hb hc
        simp only [ha, hb, hc, k1, k2, ofTree, okT, okE, evalT, evalE, evsIn, ev, callF, preF, hasF, needs, i0, b0, toI_int, toB_bool, List.getD_cons_zero, List.getD_cons_succ, List.cons_append, List.nil_append, List.replicate, if_true, if_false, Bool.false_eq_true, and_true, true_and, implies_true, forall_const, false_implies, cmpI, Bool.not_true, Bool.not_false, Bool.true_and, Bool.false_and, Bool.and_true, Bool.and_false, reduceIte, List.append_nil, reduceCtorEq]
        simp
        by_cases h1 : gcd3 a b c = 1
        · simp [h1]
        · rw [beq_eq_false_iff_ne.2 h1, beq_eq_false_iff_ne]
          omega

def tr_l2Low : Tr :=
  (.evs [.call 0 [(.var 2), (.var 0)] none 1,
    .call 0 [(.var 3), (.var 1)] none 1]
  (.evs [.need [(.cmp .neq (.var 4) (.int .i64 0)), (.cmp .neq (.var 4) (.int .i64 0)), (.cmp .neq (.var 4) (.int .i64 0))]]
  (.evs [.call 1 [(.ar .quo .i64 (.var 0) (.var 4)), (.ar .quo .i64 (.var 1) (.var 4)), (.ar .quo .i64 (.var 2) (.var 4))] none 1]
  (.ite (.not (.var 5))
  (.ret [(.int .i64 0), (.int .i64 0), (.int .i64 0), (.bool false)])
  (.ret [(.ar .quo .i64 (.var 0) (.var 4)), (.ar .quo .i64 (.var 1) (.var 4)), (.ar .quo .i64 (.var 2) (.var 4)), (.bool true)])))))
def Fs_l2Low : List Fun1 := [F_l2Gcd, G_sFracValid]
def F_l2Low : Fun1 := ofTree Fs_l2Low tr_l2Low
def G_l2Low : Fun1 := ⟨fun ins => lowOk (i0 ins 0) (i0 ins 1) (i0 ins 2), fun ins => fr4 (lowI (i0 ins 0) (i0 ins 1) (i0 ins 2))⟩
theorem as_l2Low (ins : List Value) (ht : TypedL [.int .i64, .int .i64, .int .i64] ins) (hp : G_l2Low.pre ins) : F_l2Low.pre ins ∧ F_l2Low.out ins = G_l2Low.out ins := by
  obtain ⟨a, b, c, rfl, wa, wb, wc⟩ := ints3 ht
  obtain ⟨p1, p2, p3, p4, p5, p6⟩ : lowOk a b c := hp
  have hc0 : 0 < c.natAbs := by omega
  have g1 : Nat.gcd c.natAbs a.natAbs ≤ c.natAbs := Nat.gcd_le_left _ hc0
  have gp : 0 < Nat.gcd c.natAbs a.natAbs := Nat.gcd_pos_of_pos_left _ hc0
  have e1 : mxI false (euc c a) (IntKind.i64.wrap (0 - euc c a)) = (Nat.gcd c.natAbs a.natAbs : Nat) := gcd_small (by omega)
  have g2 : Nat.gcd ((Nat.gcd c.natAbs a.natAbs : Nat) : Int).natAbs b.natAbs ≤ Nat.gcd c.natAbs a.natAbs := Nat.gcd_le_left _ gp
  have e2 : mxI false (euc (Nat.gcd c.natAbs a.natAbs : Nat) b) (IntKind.i64.wrap (0 - euc (Nat.gcd c.natAbs a.natAbs : Nat) b)) = (gcd3 a b c : Nat) := by
    rw [gcd_small (by omega), Int.natAbs_natCast, gcd3_alt]
  have hg : gcd3 a b c ≠ 0 := by have := gcd3_pos (a := a) (b := b) p5; omega
  have hgi : ((gcd3 a b c : Nat) : Int) ≠ 0 := by omega
  have q1 := quo_ok (g := gcd3 a b c) ⟨p1, p2⟩
  have q2 := quo_ok (g := gcd3 a b c) ⟨p3, p4⟩
  have q3 := quo_ok (a := c) (g := gcd3 a b c) ⟨by omega, p6⟩
  simp only [F_l2Low, G_l2Low, tr_l2Low, Fs_l2Low, F_l2Gcd, G_sFracValid, lowI, arI, ofTree, okT, okE, evalT, evalE, evsIn, ev, callF, preF, hasF, needs, i0, b0, toI_int, toB_bool, List.getD_cons_zero, List.getD_cons_succ, List.cons_append, List.nil_append, List.replicate, if_true, if_false, Bool.false_eq_true, and_true, true_and, implies_true, forall_const, false_implies, cmpI, Bool.not_true, Bool.not_false, Bool.true_and, Bool.false_and, Bool.and_true, Bool.and_false, reduceIte, List.append_nil, reduceCtorEq, e1, e2, q1, q2, q3, valid_low p5]
  cases h1 : inR (a.tdiv (gcd3 a b c)) <;> cases h2 : inR (b.tdiv (gcd3 a b c)) <;> by_cases h3 : c.tdiv (gcd3 a b c) ≤ 2000000000 <;> simp [h1, h2, h3, hgi, hg, fr4, zq] <;> omega
def A_l2Low : AF
  | [.itv a b, .itv c d, .itv e f] => if decide (-9223372036854775808 < a) && (decide (b ≤ 9223372036854775807) && (decide (-9223372036854775808 < c) && (decide (d ≤ 9223372036854775807) && (decide (1 ≤ e) && decide (f ≤ 9223372036854775807))))) then some [.any, .any, .any, .any] else none
  | _ => none
theorem aok_l2Low {cb : CodeB} : AOK cb G_l2Low A_l2Low := by
  intro I O h ins hi
  match I, ins, hi, h with
  | [.itv a b, .itv c d, .itv e f], [x, y, z], ⟨⟨x', hx, x1, x2⟩, ⟨y', hy, y1, y2⟩, ⟨z', hz, z1, z2⟩, _⟩, h =>
    simp only [A_l2Low] at h
    split at h
    · rename_i hc
      cases h
      simp only [Bool.and_eq_true, decide_eq_true_eq] at hc
      subst hx hy hz
      exact ⟨show lowOk x' y' z' by unfold lowOk; omega, trivial, trivial, trivial, trivial, trivial⟩
    · cases h

def tr_iFracValid : Tr :=
  (.evs [.call 0 [(.var 0), (.int .i64 (-2000000000)), (.int .i64 2000000000)] none 1,
    .call 0 [(.var 1), (.int .i64 (-2000000000)), (.int .i64 2000000000)] (some (.var 3)) 1,
    .call 0 [(.var 2), (.int .i64 1), (.int .i64 2000000000)] (some (.ite (.var 3) (.var 4) (.bool false))) 1,
    .call 2 [(.var 0)] (some (.ite (.ite (.var 3) (.var 4) (.bool false)) (.var 5) (.bool false))) 1,
    .call 2 [(.var 1)] (some (.ite (.ite (.var 3) (.var 4) (.bool false)) (.var 5) (.bool false))) 1,
    .call 1 [(.var 6), (.var 7)] (some (.ite (.ite (.var 3) (.var 4) (.bool false)) (.var 5) (.bool false))) 1,
    .call 1 [(.var 8), (.var 2)] (some (.ite (.ite (.var 3) (.var 4) (.bool false)) (.var 5) (.bool false))) 1]
  (.ret [(.ite (.ite (.ite (.var 3) (.var 4) (.bool false)) (.var 5) (.bool false)) (.cmp .eql (.var 9) (.int .i64 1)) (.bool false))]))
def Fs_iFracValid : List Fun1 := [G_within, F_divisor, F_size]
def F_iFracValid : Fun1 := ofTree Fs_iFracValid tr_iFracValid
def G_iFracValid : Fun1 := ⟨fun _ => True, fun ins => [.bool (validI (i0 ins 0) (i0 ins 1) (i0 ins 2))]⟩
theorem as_iFracValid (ins : List Value) (ht : TypedL [.int .i64, .int .i64, .int .i64] ins) (_ : G_iFracValid.pre ins) : F_iFracValid.pre ins ∧ F_iFracValid.out ins = G_iFracValid.out ins := by
  obtain ⟨a, b, c, rfl, wa, wb, wc⟩ := ints3 ht
  have key : inR a = true → inR b = true → inRg c 1 2000000000 = true → mxI false a (IntKind.i64.wrap (0 - a)) = a.natAbs ∧ mxI false b (IntKind.i64.wrap (0 - b)) = b.natAbs ∧
      euc (a.natAbs : Nat) (b.natAbs : Nat) = (Nat.gcd a.natAbs b.natAbs : Nat) ∧ euc (Nat.gcd a.natAbs b.natAbs : Nat) c = (gcd3 a b c : Nat) := by
    intro ha hb hc
    simp only [inR, inRg, Bool.and_eq_true, decide_eq_true_eq] at ha hb hc
    exact ⟨size_abs (by omega), size_abs (by omega), euc_nat _ _, by rw [euc_eq (by omega) (by omega)]; rfl⟩
  have r1 : ∀ z, inRg z (-2000000000) 2000000000 = inR z := fun _ => rfl
  cases ha : inR a
  · simp only [F_iFracValid, G_iFracValid, tr_iFracValid, Fs_iFracValid, G_within, F_divisor, F_size, tr_size, Fs_size, validI, arI, r1, ha, ofTree, okT, okE, evalT, evalE, evsIn, ev, callF, preF, hasF, needs, i0, b0, toI_int, toB_bool, List.getD_cons_zero, List.getD_cons_succ, List.cons_append, List.nil_append, List.replicate, if_true, if_false, Bool.false_eq_true, and_true, true_and, implies_true, forall_const, false_implies, cmpI, Bool.not_true, Bool.not_false, Bool.true_and, Bool.false_and, Bool.and_true, Bool.and_false, reduceIte, List.append_nil, reduceCtorEq]
  · cases hb : inR b
    · simp only [F_iFracValid, G_iFracValid, tr_iFracValid, Fs_iFracValid, G_within, F_divisor, F_size, tr_size, Fs_size, validI, arI, r1, ha, hb, ofTree, okT, okE, evalT, evalE, evsIn, ev, callF, preF, hasF, needs, i0, b0, toI_int, toB_bool, List.getD_cons_zero, List.getD_cons_succ, List.cons_append, List.nil_append, List.replicate, if_true, if_false, Bool.false_eq_true, and_true, true_and, implies_true, forall_const, false_implies, cmpI, Bool.not_true, Bool.not_false, Bool.true_and, Bool.false_and, Bool.and_true, Bool.and_false, reduceIte, List.append_nil, reduceCtorEq]
    · cases hc : inRg c 1 2000000000
      · simp only [F_iFracValid, G_iFracValid, tr_iFracValid, Fs_iFracValid, G_within, F_divisor, F_size, tr_size, Fs_size, validI, arI, r1, ha, hb, hc, ofTree, okT, okE, evalT, evalE, evsIn, ev, callF, preF, hasF, needs, i0, b0, toI_int, toB_bool, List.getD_cons_zero, List.getD_cons_succ, List.cons_append, List.nil_append, List.replicate, if_true, if_false, Bool.false_eq_true, and_true, true_and, implies_true, forall_const, false_implies, cmpI, Bool.not_true, Bool.not_false, Bool.true_and, Bool.false_and, Bool.and_true, Bool.and_false, reduceIte, List.append_nil, reduceCtorEq]
      · obtain ⟨k1, k2, k3, k4⟩ := key ha hb hc
        simp only [F_iFracValid, G_iFracValid, tr_iFracValid, Fs_iFracValid, G_within, F_divisor, F_size, tr_size, Fs_size, validI, arI, r1, ha, hb, hc, k1, k2, k3, k4, ofTree, okT, okE, evalT, evalE, evsIn, ev, callF, preF, hasF, needs, i0, b0, toI_int, toB_bool, List.getD_cons_zero, List.getD_cons_succ, List.cons_append, List.nil_append, List.replicate, if_true, if_false, Bool.false_eq_true, and_true, true_and, implies_true, forall_const, false_implies, cmpI, Bool.not_true, Bool.not_false, Bool.true_and, Bool.false_and, Bool.and_true, Bool.and_false, reduceIte, List.append_nil, reduceCtorEq]
        by_cases h1 : gcd3 a b c = 1
        · simp [h1]
        · have h2 : ((gcd3 a b c : Nat) : Int) ≠ 1 := by omega
          rw [beq_eq_false_iff_ne.2 h2, beq_eq_false_iff_ne.2 h1]

def tr_indexOk : Tr :=
  (.evs [.call 0 [(.var 0), (.var 1), (.var 2)] none 1]
  (.ret [(.ite (.var 3) (.not (.ite (.cmp .eql (.var 0) (.int .i64 0)) (.ite (.cmp .eql (.var 1) (.int .i64 0)) (.cmp .eql (.var 2) (.int .i64 1)) (.bool false)) (.bool false))) (.bool false))]))
def Fs_indexOk : List Fun1 := [G_iFracValid]
def F_indexOk : Fun1 := ofTree Fs_indexOk tr_indexOk
def G_indexOk : Fun1 := ⟨fun _ => True, fun ins => [.bool (idxQ (q3 ins 0))]⟩
theorem as_indexOk (ins : List Value) (ht : TypedL [.int .i64, .int .i64, .int .i64] ins) (_ : G_indexOk.pre ins) : F_indexOk.pre ins ∧ F_indexOk.out ins = G_indexOk.out ins := by
  obtain ⟨a, b, c, rfl, _⟩ := ints3 ht
  simp only [F_indexOk, G_indexOk, tr_indexOk, Fs_indexOk, G_iFracValid, idxQ, validQ, q3, ofTree, okT, okE, evalT, evalE, evsIn, ev, callF, preF, hasF, needs, i0, b0, toI_int, toB_bool, List.getD_cons_zero, List.getD_cons_succ, List.cons_append, List.nil_append, List.replicate, if_true, if_false, Bool.false_eq_true, and_true, true_and, implies_true, forall_const, false_implies, cmpI, Bool.not_true, Bool.not_false, Bool.true_and, Bool.false_and, Bool.and_true, Bool.and_false, reduceIte, List.append_nil, reduceCtorEq]
  cases h : validI a b c
  · simp
  · by_cases ha : a = 0
    · by_cases hb : b = 0
      · subst ha; subst hb
        simp [nil_den h]
      · simp [ha, hb]
    · simp [ha]

def tr_iFilmValid : Tr :=
  (.lp 0 [(.int .i64 0)] [.int .i64]
  (.ite (.cmp .lss (.var 2) (.len (.var 0)))
   (.evs [.need [(.inb (.var 1) (.var 2) 4)]]
    (.evs [.call 0 [(.sel (.var 1) (.var 2) 4 0), (.sel (.var 1) (.var 2) 4 1), (.sel (.var 1) (.var 2) 4 2)] none 1,
      .call 1 [(.sel (.var 1) (.var 2) 4 3), (.int .i64 0), (.int .i64 3)] (some (.not (.not (.var 3)))) 1]
    (.ite (.ite (.not (.var 3)) (.bool true) (.not (.var 4)))
    (.ret [(.bool false)])
    (.next 0 [(.ar .add .i64 (.var 2) (.int .i64 1))]))))
   (.ret [(.cmp .leq (.len (.var 0)) (.int .i64 8))])))
def Fs_iFilmValid : List Fun1 := [G_indexOk, G_within]
def layP (c : Value) (k : Nat) : Bool := idxQ (rq c k 0, rq c k 1, rq c k 2) && inRg (rq c k 3) 0 3
def F_iFilmValid : Fun1 := ⟨fun ins => Fit4 (ins.getD 0 undef) (ins.getD 1 undef), fun ins => [.bool (allB (layP (ins.getD 1 undef)) 0 (rlen (ins.getD 0 undef)) && decide (lenV (ins.getD 0 undef) ≤ 8))]⟩
theorem sat_iFilmValid (P : Program) (ins : List Value) (K : List Value → Prop) (ht : TypedL [.sl, .row .i64 4] ins) (hp : F_iFilmValid.pre ins) (hK : K (F_iFilmValid.out ins)) : sat P (specsOf Fs_iFilmValid) tr_iFilmValid ins [] K := by
  obtain ⟨x, c, rfl, hx, hcT⟩ := two_of ht
  obtain ⟨a, n, cap, rfl, hc, hn⟩ : Fit4 x c := hp
  refine ⟨fun vs => ∃ k : Nat, vs = [.int .i64 k] ∧ k ≤ n ∧ allB (layP c) 0 k = true, fun vs => n - (toI (vs.getD 0 undef)).toNat, ⟨0, rfl, Nat.zero_le _, rfl⟩, ?_⟩
  rintro vs hty ⟨k, rfl, hk, hall⟩
  refine ⟨fun h => ?_, fun h => ?_⟩
  · have hlt : k < n := by
      have : decide ((k : Int) < (n : Int)) = true := Value.bool.inj h
      simpa using this
    have hin := inb_ok hc hlt
    refine ⟨fun e he => by rw [List.mem_singleton.1 he]; exact hin, trivial, ?_⟩
    show evSat P _ _ ([Value.slice a n cap, c, .int .i64 k] ++ [.bool (idxQ (rq c k 0, rq c k 1, rq c k 2))]) _
    have bad : layP c k = false → K [.bool false] := fun hs => by
      have e : F_iFilmValid.out [.slice a n cap, c] = [.bool false] := by
        show [Value.bool (allB (layP c) 0 n && _)] = _
        rw [allB_not hlt hs, Bool.false_and]
      rw [e] at hK
      exact hK
    have hlay : layP c k = (idxQ (rq c k 0, rq c k 1, rq c k 2) && inRg (rq c k 3) 0 3) := rfl
    cases hi : idxQ (rq c k 0, rq c k 1, rq c k 2) with
    | false => exact ⟨fun h2 => (by cases h2), fun _ => ⟨fun _ => bad (by rw [hlay, hi]; rfl), fun h2 => (by cases h2)⟩⟩
    | true =>
      refine ⟨fun _ => ⟨trivial, ?_⟩, fun h2 => (by cases h2)⟩
      show sat P _ _ ([Value.slice a n cap, c, .int .i64 k, .bool true] ++ [.bool (inRg (rq c k 3) 0 3)]) _ K
      cases h3 : inRg (rq c k 3) 0 3 with
      | false => exact ⟨fun _ => bad (by rw [hlay, hi, h3]; rfl), fun h2 => (by cases h2)⟩
      | true =>
        have hs : layP c k = true := by rw [hlay, hi, h3]; rfl
        refine ⟨fun h2 => (by cases h2), fun _ => ?_⟩
        · refine ⟨⟨k + 1, congrArg (fun z => [Value.int .i64 z]) (wrap_next hlt hn), by omega, ?_⟩, ?_⟩
          · rw [allB_snoc, hall, Nat.zero_add]; exact hs
          · show n - (toI (.int .i64 (IntKind.i64.wrap ((k : Int) + 1)))).toNat < n - (toI (.int .i64 (k : Int))).toNat
            rw [wrap_next hlt hn]
            simp only [toI_int, Int.toNat_natCast]
            omega
  · have hge : ¬ k < n := by
      have : decide ((k : Int) < (n : Int)) = false := Value.bool.inj h
      simpa using this
    have hkn : k = n := by omega
    subst hkn
    have e : F_iFilmValid.out [.slice a k cap, c] = [.bool (decide ((k : Int) ≤ 8))] := by
      show [Value.bool (allB (layP c) 0 k && decide ((k : Int) ≤ 8))] = _
      rw [hall, Bool.true_and]
    rw [e] at hK
    exact hK

def tr_sFilmValid : Tr :=
  (.lp 0 [(.int .i64 0)] [.int .i64]
  (.ite (.cmp .lss (.var 2) (.len (.var 0)))
   (.evs [.need [(.inb (.var 1) (.var 2) 4)]]
    (.evs [.call 0 [(.sel (.var 1) (.var 2) 4 0), (.sel (.var 1) (.var 2) 4 1), (.sel (.var 1) (.var 2) 4 2)] none 1,
      .need [(.ite (.not (.ite (.not (.var 3)) (.bool true) (.ite (.cmp .eql (.sel (.var 1) (.var 2) 4 0) (.int .i64 0)) (.cmp .eql (.sel (.var 1) (.var 2) 4 1) (.int .i64 0)) (.bool false)))) (.inb (.var 1) (.var 2) 4) (.bool true))],
      .call 1 [(.sel (.var 1) (.var 2) 4 3), (.int .i64 0), (.int .i64 3)] (some (.not (.ite (.not (.var 3)) (.bool true) (.ite (.cmp .eql (.sel (.var 1) (.var 2) 4 0) (.int .i64 0)) (.cmp .eql (.sel (.var 1) (.var 2) 4 1) (.int .i64 0)) (.bool false))))) 1]
    (.ite (.ite (.ite (.not (.var 3)) (.bool true) (.ite (.cmp .eql (.sel (.var 1) (.var 2) 4 0) (.int .i64 0)) (.cmp .eql (.sel (.var 1) (.var 2) 4 1) (.int .i64 0)) (.bool false))) (.bool true) (.not (.var 4)))
    (.ret [(.bool false)])
    (.next 0 [(.ar .add .i64 (.var 2) (.int .i64 1))]))))
   (.ret [(.cmp .leq (.len (.var 0)) (.int .i64 8))])))
def Fs_sFilmValid : List Fun1 := [G_sFracValid, G_l6In]
def F_sFilmValid : Fun1 := F_iFilmValid
theorem sat_sFilmValid (P : Program) (ins : List Value) (K : List Value → Prop) (ht : TypedL [.sl, .row .i64 4] ins) (hp : F_sFilmValid.pre ins) (hK : K (F_sFilmValid.out ins)) : sat P (specsOf Fs_sFilmValid) tr_sFilmValid ins [] K := by
  obtain ⟨x, c, rfl, hx, hcT⟩ := two_of ht
  obtain ⟨a, n, cap, rfl, hc, hn⟩ : Fit4 x c := hp
  refine ⟨fun vs => ∃ k : Nat, vs = [.int .i64 k] ∧ k ≤ n ∧ allB (layP c) 0 k = true, fun vs => n - (toI (vs.getD 0 undef)).toNat, ⟨0, rfl, Nat.zero_le _, rfl⟩, ?_⟩
  rintro vs hty ⟨k, rfl, hk, hall⟩
  refine ⟨fun h => ?_, fun h => ?_⟩
  · have hlt : k < n := by
      have : decide ((k : Int) < (n : Int)) = true := Value.bool.inj h
      simpa using this
    have hin := inb_ok hc hlt
    refine ⟨fun e he => by rw [List.mem_singleton.1 he]; exact hin, trivial, ?_⟩
    show evSat P _ _ ([Value.slice a n cap, c, .int .i64 k] ++ [.bool (validQ (rq c k 0, rq c k 1, rq c k 2))]) _
    have bad : layP c k = false → K [.bool false] := fun hs => by
      have e : F_sFilmValid.out [.slice a n cap, c] = [.bool false] := by
        show [Value.bool (allB (layP c) 0 n && _)] = _
        rw [allB_not hlt hs, Bool.false_and]
      rw [e] at hK
      exact hK
    have hlay : layP c k = (idxQ (rq c k 0, rq c k 1, rq c k 2) && inRg (rq c k 3) 0 3) := rfl
    have hidx : idxQ (rq c k 0, rq c k 1, rq c k 2) = (validQ (rq c k 0, rq c k 1, rq c k 2) && !(rq c k 0 == 0 && rq c k 1 == 0)) := rfl
    cases hv : validQ (rq c k 0, rq c k 1, rq c k 2) with
    | false =>
      refine ⟨fun e he => by rw [List.mem_singleton.1 he]; rfl, ⟨fun h2 => (by cases h2), fun _ => ?_⟩⟩
      exact ⟨fun _ => bad (by rw [hlay, hidx, hv]; rfl), fun h2 => (by cases h2)⟩
    | true =>
      refine ⟨fun e he => ?_, ⟨fun h2 => ⟨trivial, ?_⟩, fun h2 => ?_⟩⟩
      · rw [List.mem_singleton.1 he]
        show (if (!andB (rq c k 0 == 0) (rq c k 1 == 0)) = true then _ else Value.bool true) = _
        split
        · exact hin
        · rfl
      · have h2 : (!andB (rq c k 0 == 0) (rq c k 1 == 0)) = true := h2
        rw [andB_eq] at h2
        have hz : (rq c k 0 == 0 && rq c k 1 == 0) = false := by
          cases hq : (rq c k 0 == 0 && rq c k 1 == 0) with
          | false => rfl
          | true => rw [hq] at h2; cases h2
        have hi : idxQ (rq c k 0, rq c k 1, rq c k 2) = true := by rw [hidx, hv, hz]; rfl
        show sat P _ _ ([Value.slice a n cap, c, .int .i64 k, .bool true] ++ [.bool (inRg (rq c k 3) 0 3)]) _ K
        have hc2 : ∀ x : Bool, toB (ev ([Value.slice a n cap, c, .int .i64 k, .bool true] ++ [.bool x]) (.ite (.ite (.not (.var 3)) (.bool true) (.ite (.cmp .eql (.sel (.var 1) (.var 2) 4 0) (.int .i64 0)) (.cmp .eql (.sel (.var 1) (.var 2) 4 1) (.int .i64 0)) (.bool false))) (.bool true) (.not (.var 4)))) = !x := fun x => by
          show toB (if andB (rq c k 0 == 0) (rq c k 1 == 0) = true then Value.bool true else .bool (!x)) = !x
          rw [andB_eq, hz]
          rfl
        cases h3 : inRg (rq c k 3) 0 3 with
        | false =>
          refine ⟨fun _ => bad (by rw [hlay, hi, h3]; rfl), fun h4 => ?_⟩
          have := hc2 false
          rw [h4] at this
          cases this
        | true =>
          have hs : layP c k = true := by rw [hlay, hi, h3]; rfl
          refine ⟨fun h4 => ?_, fun _ => ?_⟩
          · have := hc2 true
            rw [h4] at this
            cases this
          · refine ⟨⟨k + 1, congrArg (fun z => [Value.int .i64 z]) (wrap_next hlt hn), by omega, ?_⟩, ?_⟩
            · rw [allB_snoc, hall, Nat.zero_add]; exact hs
            · show n - (toI (.int .i64 (IntKind.i64.wrap ((k : Int) + 1)))).toNat < n - (toI (.int .i64 (k : Int))).toNat
              rw [wrap_next hlt hn]
              simp only [toI_int, Int.toNat_natCast]
              omega
      · have h2 : (!andB (rq c k 0 == 0) (rq c k 1 == 0)) = false := h2
        rw [andB_eq] at h2
        have hz : (rq c k 0 == 0 && rq c k 1 == 0) = true := by
          cases hq : (rq c k 0 == 0 && rq c k 1 == 0) with
          | true => rfl
          | false => rw [hq] at h2; cases h2
        refine ⟨fun _ => bad (by rw [hlay, hidx, hv, hz]; rfl), fun h4 => ?_⟩
        exfalso
        have h4 : toB (if andB (rq c k 0 == 0) (rq c k 1 == 0) = true then Value.bool true else .bool (!toB undef)) = false := congrArg toB h4
        rw [andB_eq, hz] at h4
        cases h4
  · have hge : ¬ k < n := by
      have : decide ((k : Int) < (n : Int)) = false := Value.bool.inj h
      simpa using this
    have hkn : k = n := by omega
    subst hkn
    have e : F_sFilmValid.out [.slice a k cap, c] = [.bool (decide ((k : Int) ≤ 8))] := by
      show [Value.bool (allB (layP c) 0 k && decide ((k : Int) ≤ 8))] = _
      rw [hall, Bool.true_and]
    rw [e] at hK
    exact hK

def tr_pick : Tr :=
  (.ite (.ite (.cmp .lss (.var 0) (.int .i64 1)) (.bool true) (.cmp .eql (.len (.var 1)) (.int .i64 0)))
  (.ret [(.int .i64 0), (.var 1), (.ar .add .i64 (.var 2) (.int .i64 1))])
  (.ite (.cmp .lss (.ar .sub .i64 (.ar .add .i64 (.var 2) (.int .i64 1)) (.int .i64 1)) (.len (.var 1)))
   (.evs [.need [(.inb (.var 3) (.ar .sub .i64 (.ar .add .i64 (.var 2) (.int .i64 1)) (.int .i64 1)) 1)],
      .need [(.cmp .neq (.var 0) (.int .i64 0))]]
    (.ret [(.ar .rem .i64 (.conv .i64 (.sel (.var 3) (.ar .sub .i64 (.ar .add .i64 (.var 2) (.int .i64 1)) (.int .i64 1)) 1 0)) (.var 0)), (.var 1), (.ar .add .i64 (.var 2) (.int .i64 1))]))
   (.evs [.need [(.cmp .neq (.len (.var 1)) (.int .i64 0)), (.inb (.var 3) (.ar .rem .i64 (.ar .sub .i64 (.ar .add .i64 (.var 2) (.int .i64 1)) (.int .i64 1)) (.len (.var 1))) 1), (.cmp .neq (.len (.var 1)) (.int .i64 0)), (.inb (.var 3) (.ar .rem .i64 (.ar .add .i64 (.ar .mul .i64 (.ar .sub .i64 (.ar .add .i64 (.var 2) (.int .i64 1)) (.int .i64 1)) (.int .i64 7)) (.int .i64 3)) (.len (.var 1))) 1), (.cmp .neq (.len (.var 1)) (.int .i64 0))],
      .need [(.cmp .neq (.len (.var 1)) (.int .i64 0)), (.inb (.var 3) (.ar .rem .i64 (.ar .sub .i64 (.ar .add .i64 (.var 2) (.int .i64 1)) (.int .i64 1)) (.len (.var 1))) 1), (.cmp .neq (.len (.var 1)) (.int .i64 0)), (.inb (.var 3) (.ar .rem .i64 (.ar .add .i64 (.ar .mul .i64 (.ar .sub .i64 (.ar .add .i64 (.var 2) (.int .i64 1)) (.int .i64 1)) (.int .i64 7)) (.int .i64 3)) (.len (.var 1))) 1), (.cmp .neq (.len (.var 1)) (.int .i64 0))]]
    (.evs [.need [(.bool true)]]
    (.evs [.need [(.cmp .neq (.var 0) (.int .i64 0))]]
    (.ret [(.ar .rem .i64 (.ar .xor .i64 (.ar .add .i64 (.ar .add .i64 (.ar .add .i64 (.ar .mul .i64 (.conv .i64 (.sel (.var 3) (.ar .rem .i64 (.ar .sub .i64 (.ar .add .i64 (.var 2) (.int .i64 1)) (.int .i64 1)) (.len (.var 1))) 1 0)) (.int .i64 131)) (.ar .mul .i64 (.conv .i64 (.sel (.var 3) (.ar .rem .i64 (.ar .add .i64 (.ar .mul .i64 (.ar .sub .i64 (.ar .add .i64 (.var 2) (.int .i64 1)) (.int .i64 1)) (.int .i64 7)) (.int .i64 3)) (.len (.var 1))) 1 0)) (.int .i64 1117))) (.ar .mul .i64 (.ar .sub .i64 (.ar .add .i64 (.var 2) (.int .i64 1)) (.int .i64 1)) (.int .i64 29))) (.ar .mul .i64 (.ar .quo .i64 (.ar .sub .i64 (.ar .add .i64 (.var 2) (.int .i64 1)) (.int .i64 1)) (.len (.var 1))) (.int .i64 53))) (.ar .quo .i64 (.ar .add .i64 (.ar .add .i64 (.ar .add .i64 (.ar .mul .i64 (.conv .i64 (.sel (.var 3) (.ar .rem .i64 (.ar .sub .i64 (.ar .add .i64 (.var 2) (.int .i64 1)) (.int .i64 1)) (.len (.var 1))) 1 0)) (.int .i64 131)) (.ar .mul .i64 (.conv .i64 (.sel (.var 3) (.ar .rem .i64 (.ar .add .i64 (.ar .mul .i64 (.ar .sub .i64 (.ar .add .i64 (.var 2) (.int .i64 1)) (.int .i64 1)) (.int .i64 7)) (.int .i64 3)) (.len (.var 1))) 1 0)) (.int .i64 1117))) (.ar .mul .i64 (.ar .sub .i64 (.ar .add .i64 (.var 2) (.int .i64 1)) (.int .i64 1)) (.int .i64 29))) (.ar .mul .i64 (.ar .quo .i64 (.ar .sub .i64 (.ar .add .i64 (.var 2) (.int .i64 1)) (.int .i64 1)) (.len (.var 1))) (.int .i64 53))) (.int .i64 64))) (.var 0)), (.var 1), (.ar .add .i64 (.var 2) (.int .i64 1))]))))))
def Fs_pick : List Fun1 := []
def F_pick : Fun1 := ofTree Fs_pick tr_pick
theorem pick_tree {arr : Array Value} {b : Value} {n p L : Int} (hL : lenV b = L) (hs : L = (arr.size : Int)) (hL2 : L ≤ 9223372036854775807) (hn : I64 n) (hp : 0 ≤ p ∧ p ≤ 1000000000) (hb : ∀ i : Nat, 0 ≤ toI (arr.getD i undef) ∧ toI (arr.getD i undef) ≤ 255) :
    okT [] tr_pick [.int .i64 n, b, .int .i64 p, .agg arr] ∧ ∃ x, evalT [] tr_pick [.int .i64 n, b, .int .i64 p, .agg arr] = [.int .i64 x, b, .int .i64 (p + 1)] ∧ 0 ≤ x ∧ x ≤ max 0 (n - 1) := by
  have w1 : IntKind.i64.wrap (p + 1) = p + 1 := wrap_in (by omega)
  have w2 : IntKind.i64.wrap (p + 1 - 1) = p := by rw [show p + 1 - 1 = p by omega]; exact wrap_in (by omega)
  have wb : ∀ i : Nat, IntKind.i64.wrap (toI (arr.getD i undef)) = toI (arr.getD i undef) := fun i => wrap_in (by have := hb i; omega)
  unfold tr_pick
  simp only [okT, evalT, okE, evalE, needs, evsIn, ev, cmpI, arI, toI_int, List.getD_cons_zero, List.getD_cons_succ, w1, w2, hL, toB_bool, Value.cells, Nat.mul_one, Nat.add_zero, wb]
  by_cases c1 : n < 1
  · simp only [c1, decide_true, if_true, toB_bool]
    exact ⟨trivial, 0, rfl, by omega, by omega⟩
  by_cases c2 : L = 0
  · simp only [c1, c2, decide_false, Bool.false_eq_true, if_false, toB_bool, beq_self_eq_true, if_true]
    exact ⟨trivial, 0, rfl, by omega, by omega⟩
  have c3 : (L == 0) = false := by simp [c2]
  simp only [c1, c3, decide_false, Bool.false_eq_true, if_false, toB_bool]
  have n0 : (n != 0) = true := by simp; omega
  by_cases c4 : p < L
  · simp only [c4, decide_true, if_true]
    have h1 := hb p.toNat
    obtain ⟨r1, r2⟩ := tmod_rng (n := n) h1.1 (by omega)
    refine ⟨⟨⟨⟨by rw [Value.bool.injEq, decide_eq_true_eq]; omega, trivial⟩, ⟨by rw [n0], trivial⟩, trivial⟩, trivial⟩, _, rfl, r1, by omega⟩
  · simp only [c4, decide_false, Bool.false_eq_true, if_false]
    have w3 : IntKind.i64.wrap (p * 7) = p * 7 := wrap_in (by omega)
    have w4 : IntKind.i64.wrap (p * 7 + 3) = p * 7 + 3 := wrap_in (by omega)
    obtain ⟨a1, a2⟩ := tmod_rng (x := p) (n := L) (by omega) (by omega)
    obtain ⟨b1, b2⟩ := tmod_rng (x := p * 7 + 3) (n := L) (by omega) (by omega)
    obtain ⟨d1, d2⟩ := tdiv_range (x := p) (n := L) (by omega) (by omega)
    simp only [w3, w4]
    have y1 := hb (p.tmod L).toNat
    have y2 := hb ((p * 7 + 3).tmod L).toNat
    generalize toI (arr.getD (p.tmod L).toNat undef) = u at y1 ⊢
    generalize toI (arr.getD ((p * 7 + 3).tmod L).toNat undef) = v at y2 ⊢
    generalize p.tdiv L = z at d1 d2 ⊢
    rw [wrap_in (z := u * 131) (by omega), wrap_in (z := v * 1117) (by omega), wrap_in (z := p * 29) (by omega), wrap_in (z := z) (by omega), wrap_in (z := z * 53) (by omega),
      wrap_in (z := u * 131 + v * 1117) (by omega), wrap_in (z := u * 131 + v * 1117 + p * 29) (by omega), wrap_in (z := u * 131 + v * 1117 + p * 29 + z * 53) (by omega)]
    have hx : 0 ≤ u * 131 + v * 1117 + p * 29 + z * 53 ∧ u * 131 + v * 1117 + p * 29 + z * 53 ≤ 4611686018427387903 := by omega
    generalize u * 131 + v * 1117 + p * 29 + z * 53 = X at hx ⊢
    obtain ⟨t1, t2⟩ := tdiv_range (x := X) (n := 64) hx.1 (by omega)
    rw [wrap_in (z := X.tdiv 64) (by omega)]
    have hxr := xor_nonneg hx (y := X.tdiv 64) (by omega)
    obtain ⟨r1, r2⟩ := tmod_rng (n := n) hxr.1 (by omega)
    have L0 : (L != 0) = true := by simp [c2]
    refine ⟨⟨⟨⟨by rw [L0], by rw [Value.bool.injEq, decide_eq_true_eq]; omega, by rw [L0], by rw [Value.bool.injEq, decide_eq_true_eq]; omega, by rw [L0], trivial⟩, ⟨by rw [L0], by rw [Value.bool.injEq, decide_eq_true_eq]; omega, by rw [L0], by rw [Value.bool.injEq, decide_eq_true_eq]; omega, by rw [L0], trivial⟩, trivial⟩, ⟨⟨trivial, trivial⟩, trivial⟩, ⟨⟨by rw [n0], trivial⟩, trivial⟩, trivial⟩, _, rfl, r1, by omega⟩
def G_pick (cb : CodeB) : Fun1 := ⟨fun ins => goodSl cb (ins.getD 1 undef) ∧ (∃ n, ins.getD 0 undef = .int .i64 n ∧ I64 n) ∧ ∃ p, ins.getD 2 undef = .int .i64 p ∧ 0 ≤ p ∧ p ≤ 1000000000, fun ins => F_pick.out [ins.getD 0 undef, ins.getD 1 undef, ins.getD 2 undef, rowU cb (ins.getD 1 undef)]⟩
theorem pick_facts {cb : CodeB} (hk : CodeOk cb) {n p : Int} {b : Value} (hb : goodSl cb b) (hn : I64 n) (hp : 0 ≤ p ∧ p ≤ 1000000000) :
    F_pick.pre [.int .i64 n, b, .int .i64 p, rowU cb b] ∧ ∃ x, F_pick.out [.int .i64 n, b, .int .i64 p, rowU cb b] = [.int .i64 x, b, .int .i64 (p + 1)] ∧ 0 ≤ x ∧ x ≤ max 0 (n - 1) := by
  obtain ⟨a, len, cap, arr, hv, hr, hsz, hlen, harr⟩ := goodSl_row hk hb
  rw [hr]
  exact pick_tree (L := len) (by rw [hv]; rfl) (by omega) (by omega) hn hp (row_byte harr)
theorem ghost_pick {cb : CodeB} (hk : CodeOk cb) (n b p : Value) (ht : TypedL [.int .i64, .sl, .int .i64] [n, b, p]) (h : (G_pick cb).pre [n, b, p]) : goodSl cb b ∧ F_pick.pre [n, b, p, rowU cb b] ∧ F_pick.out [n, b, p, rowU cb b] = (G_pick cb).out [n, b, p] := by
  obtain ⟨h1, ⟨n, hn, hn'⟩, p, hp, hp'⟩ := h
  have hn : _ = Value.int .i64 n := hn
  have hp : _ = Value.int .i64 p := hp
  simp only [List.getD_cons_zero, List.getD_cons_succ] at hn hp h1
  subst hn hp
  exact ⟨h1, (pick_facts hk h1 hn' hp').1, rfl⟩
theorem aok_pick {cb : CodeB} (hk : CodeOk cb) : AOK cb (G_pick cb) aPick := by
  intro I O h ins hi
  match I, ins, hi, h with
  | [.itv lo hi', .good, .itv a b], [n, s, p], ⟨⟨n', hn, n1, n2⟩, hs, ⟨p', hp, p1, p2⟩, _⟩, h =>
    simp only [aPick] at h
    split at h
    · rename_i hc
      cases h
      simp only [Bool.and_eq_true, decide_eq_true_eq] at hc
      subst hn hp
      have hn64 : I64 n' := by unfold I64; omega
      have hpp : 0 ≤ p' ∧ p' ≤ 1000000000 := by omega
      obtain ⟨q1, x, q2, q3, q4⟩ := pick_facts hk hs hn64 hpp
      refine ⟨⟨hs, ⟨n', rfl, hn64⟩, p', rfl, hpp⟩, ?_⟩
      have e : (G_pick cb).out [.int .i64 n', s, .int .i64 p'] = [.int .i64 x, s, .int .i64 (p' + 1)] := q2
      rw [e]
      exact ⟨⟨x, rfl, q3, by omega⟩, hs, ⟨p' + 1, rfl, by omega, by omega⟩, trivial⟩
    · cases h

abbrev F_pickC := G_pick
abbrev A_pickC := aPick
theorem aok_pickC {cb : CodeB} (hk : CodeOk cb) : AOK cb (G_pick cb) aPick := aok_pick hk

abbrev F_openC := G_open
abbrev A_openC := aOpen
theorem aok_openC {cb : CodeB} (_ : CodeOk cb) : AOK cb (G_open cb) aOpen := aok_open

def tr_revL : Tr :=
  (.evs [.app (.val (.agg #[])) 4 (.cells [])]
  (.lp 0 [(.var 2), (.ar .sub .i64 (.len (.var 0)) (.int .i64 1)), (.val (.agg #[]))] [.sl, .int .i64, .row .i64 4]
  (.ite (.cmp .geq (.var 5) (.int .i64 0))
   (.evs [.need [(.inb (.var 1) (.var 5) 4)],
      .app (.var 6) 4 (.cells [(.sel (.var 1) (.var 5) 4 0), (.sel (.var 1) (.var 5) 4 1), (.sel (.var 1) (.var 5) 4 2), (.sel (.var 1) (.var 5) 4 3)])]
    (.next 0 [(.var 7), (.ar .sub .i64 (.var 5) (.int .i64 1)), (.var 8)]))
   (.ret [(.var 4), (.var 6)]))))
def Fs_revL : List Fun1 := []
def SP_revL : Spec := revSpec
theorem sat_revL (P : Program) (ins : List Value) (K : List Value → Prop) (ht : TypedL [.sl, .row .i64 4] ins) (h : SP_revL ins K) : sat P (specsOf Fs_revL) tr_revL ins [] K := by
  obtain ⟨x, c, rfl, hx, hcT⟩ := two_of ht
  obtain ⟨hf, hn, hK⟩ := h
  obtain ⟨a, n, cap, rfl, hc, hnn⟩ : Fit4 x c := hf
  have hn : n ≤ 1048576 := hn
  refine app_empty (by omega) fun a2 cap2 => ?_
  refine rev_loop (env := [.slice a n cap, c, .slice a2 0 cap2, .agg #[]]) (R := [.var 4, .var 6]) (c := c) (n := n) rfl (by simp) hc hn (a0 := a2) (cap0 := cap2) ?_ (fun b cp => hK b cp)
  have hw : IntKind.i64.wrap ((n : Int) - 1) = (n : Int) - 1 := wrap_in (by omega)
  show [Value.slice a2 0 cap2, .int .i64 (IntKind.i64.wrap ((n : Int) - 1)), .agg #[]] = _
  rw [hw]

def tr_realFilm : Tr :=
  (.lp 0 [(.int .i64 0)] [.int .i64]
  (.ite (.cmp .lss (.var 2) (.len (.var 0)))
   (.evs [.need [(.inb (.var 1) (.var 2) 4)]]
    (.ite (.cmp .neq (.sel (.var 1) (.var 2) 4 1) (.int .i64 0))
    (.ret [(.bool false)])
    (.next 0 [(.ar .add .i64 (.var 2) (.int .i64 1))])))
   (.ret [(.bool true)])))
def Fs_realFilm : List Fun1 := []
def F_realFilm : Fun1 := ⟨fun ins => Fit4 (ins.getD 0 undef) (ins.getD 1 undef), fun ins => [.bool (allB (fun k => rq (ins.getD 1 undef) k 1 == 0) 0 (rlen (ins.getD 0 undef)))]⟩
theorem sat_realFilm (P : Program) (ins : List Value) (K : List Value → Prop) (ht : TypedL [.sl, .row .i64 4] ins) (hp : F_realFilm.pre ins) (hK : K (F_realFilm.out ins)) : sat P (specsOf Fs_realFilm) tr_realFilm ins [] K := by
  obtain ⟨x, c, rfl, hx, hcT⟩ := two_of ht
  obtain ⟨a, n, cap, rfl, hc, hn⟩ : Fit4 x c := hp
  have hK : K [.bool (allB (fun k => rq c k 1 == 0) 0 n)] := hK
  refine ⟨fun vs => ∃ k : Nat, vs = [.int .i64 k] ∧ k ≤ n ∧ allB (fun k => rq c k 1 == 0) 0 k = true, fun vs => n - (toI (vs.getD 0 undef)).toNat, ⟨0, rfl, Nat.zero_le _, rfl⟩, ?_⟩
  rintro vs hty ⟨k, rfl, hk, hall⟩
  refine ⟨fun h => ?_, fun h => ?_⟩
  · have hlt : k < n := by
      have : decide ((k : Int) < (n : Int)) = true := Value.bool.inj h
      simpa using this
    have hin := inb_ok hc hlt
    refine ⟨fun e he => by rw [List.mem_singleton.1 he]; exact hin, fun h2 => ?_, fun h2 => ?_⟩
    · have h2 : (rq c k 1 != 0) = true := Value.bool.inj h2
      rw [allB_not hlt (by simpa using h2)] at hK
      exact hK
    · have h2 : (rq c k 1 != 0) = false := Value.bool.inj h2
      refine ⟨⟨k + 1, congrArg (fun z => [Value.int .i64 z]) (wrap_next hlt hn), by omega, ?_⟩, ?_⟩
      · rw [allB_snoc, hall, Nat.zero_add]; simpa using h2
      · show n - (toI (.int .i64 (IntKind.i64.wrap ((k : Int) + 1)))).toNat < n - (toI (.int .i64 (k : Int))).toNat
        rw [wrap_next hlt hn]
        simp only [toI_int, Int.toNat_natCast]
        omega
  · have hge : ¬ k < n := by
      have : decide ((k : Int) < (n : Int)) = false := Value.bool.inj h
      simpa using this
    obtain rfl : k = n := by omega
    rw [hall] at hK
    exact hK

def tr_iFracWide : Tr :=
  (.evs [.call 0 [(.var 0), (.var 1), (.var 2)] none 1]
  (.ite (.not (.var 3))
  (.ret [(.val (.complex .f64 0 0)), (.bool false)])
  (.evs [.prim (.fa .quo .f64) [(.itf .f64 (.var 0)), (.itf .f64 (.var 2))],
     .prim (.fa .quo .f64) [(.itf .f64 (.var 1)), (.itf .f64 (.var 2))]]
   (.ret [(.mkc (.var 4) (.var 5)), (.bool true)]))))
def Fs_iFracWide : List Fun1 := [G_iFracValid]
def SP_iFracWide : Spec := fWideSpec
theorem sat_iFracWide (P : Program) (ins : List Value) (K : List Value → Prop) (ht : TypedL [.int .i64, .int .i64, .int .i64] ins) (h : SP_iFracWide ins K) : sat P (specsOf Fs_iFracWide) tr_iFracWide ins [] K := by
  obtain ⟨a, b, c, rfl, _⟩ := ints3 ht
  obtain ⟨h1, h2⟩ := h
  have h1 : validQ (a, b, c) = true → K [cxv (idxF (a, b, c)), .bool true] := h1
  have h2 : validQ (a, b, c) = false → K [cxv (0, 0), .bool false] := h2
  refine evs_step (call_step (sp := G_iFracValid.spec) rfl ⟨trivial, evs_nil ?_⟩)
  show sat P _ _ ([Value.int .i64 a, .int .i64 b, .int .i64 c] ++ [.bool (validQ (a, b, c))]) _ K
  cases hv : validQ (a, b, c) with
  | false => exact sat_ite1 rfl (h2 hv)
  | true =>
    obtain ⟨e1, e2⟩ := fWide_parts hv
    exact sat_ite0 rfl (evs_step (fa_step rfl rfl e1 (fa_step rfl rfl e2 (evs_nil (h1 hv)))))

def tr_sFracWide : Tr :=
  (.evs [.call 0 [(.var 0), (.var 1), (.var 2)] none 1]
  (.ite (.not (.var 3))
  (.ret [(.val (.complex .f64 0 0)), (.bool false)])
  (.evs [.prim (.fa .quo .f64) [(.itf .f64 (.var 0)), (.itf .f64 (.var 2))],
     .prim (.fa .quo .f64) [(.itf .f64 (.var 1)), (.itf .f64 (.var 2))]]
   (.ret [(.mkc (.var 4) (.var 5)), (.bool true)]))))
def Fs_sFracWide : List Fun1 := [G_sFracValid]
def SP_sFracWide : Spec := fWideSpec
theorem sat_sFracWide (P : Program) (ins : List Value) (K : List Value → Prop) (ht : TypedL [.int .i64, .int .i64, .int .i64] ins) (h : SP_sFracWide ins K) : sat P (specsOf Fs_sFracWide) tr_sFracWide ins [] K := by
  obtain ⟨a, b, c, rfl, _⟩ := ints3 ht
  obtain ⟨h1, h2⟩ := h
  have h1 : validQ (a, b, c) = true → K [cxv (idxF (a, b, c)), .bool true] := h1
  have h2 : validQ (a, b, c) = false → K [cxv (0, 0), .bool false] := h2
  refine evs_step (call_step (sp := G_sFracValid.spec) rfl ⟨trivial, evs_nil ?_⟩)
  show sat P _ _ ([Value.int .i64 a, .int .i64 b, .int .i64 c] ++ [.bool (validQ (a, b, c))]) _ K
  cases hv : validQ (a, b, c) with
  | false => exact sat_ite1 rfl (h2 hv)
  | true =>
    obtain ⟨e1, e2⟩ := fWide_parts hv
    exact sat_ite0 rfl (evs_step (fa_step rfl rfl e1 (fa_step rfl rfl e2 (evs_nil (h1 hv)))))

def tr_iWideTimes : Tr :=
  (.evs [.prim (.fa .mul .f64) [(.cre (.var 0)), (.cre (.var 1))],
    .prim (.fa .mul .f64) [(.cim (.var 0)), (.cim (.var 1))],
    .prim (.fa .sub .f64) [(.var 2), (.var 3)],
    .prim (.fa .mul .f64) [(.cre (.var 0)), (.cim (.var 1))],
    .prim (.fa .mul .f64) [(.cim (.var 0)), (.cre (.var 1))],
    .prim (.fa .add .f64) [(.var 5), (.var 6)]]
  (.ret [(.mkc (.var 4) (.var 7))]))
def Fs_iWideTimes : List Fun1 := []
def SP_iWideTimes : Spec := wTimesSpec
theorem sat_iWideTimes (P : Program) (ins : List Value) (K : List Value → Prop) (ht : TypedL [.cpx .f64, .cpx .f64] ins) (h : SP_iWideTimes ins K) : sat P (specsOf Fs_iWideTimes) tr_iWideTimes ins [] K := by
  obtain ⟨x, y, ⟨re, im⟩, rfl, e, hK⟩ := h
  obtain ⟨ac, bd, ad, bc, h1, h2, h3, h4, h5, h6⟩ := cmul_parts e
  exact evs_step (fa_step rfl rfl h1 (fa_step rfl rfl h2 (fa_step rfl rfl h3 (fa_step rfl rfl h4 (fa_step rfl rfl h5 (fa_step rfl rfl h6 (evs_nil hK)))))))

def tr_iWideOver : Tr :=
  (.evs [.prim (.ca .quo .f64) [(.var 0), (.var 1)]]
  (.ret [(.var 2)]))
def Fs_iWideOver : List Fun1 := []
def SP_iWideOver : Spec := wOverSpec
theorem sat_iWideOver (P : Program) (ins : List Value) (K : List Value → Prop) (ht : TypedL [.cpx .f64, .cpx .f64] ins) (h : SP_iWideOver ins K) : sat P (specsOf Fs_iWideOver) tr_iWideOver ins [] K := by
  obtain ⟨x, y, rfl, hK⟩ := h
  exact evs_step (fun v hv => evs_nil (hK v ⟨P, hv⟩))

def tr_l8Given : Tr :=
  (.evs [.call 0 [(.var 0), (.var 7)] none 1,
    .call 1 [(.var 1), (.var 2), (.var 3)] (some (.var 8)) 1,
    .call 1 [(.var 4), (.var 5), (.var 6)] (some (.ite (.var 8) (.var 9) (.bool false))) 1]
  (.ret [(.ite (.ite (.ite (.var 8) (.var 9) (.bool false)) (.var 10) (.bool false)) (.not (.ite (.ite (.cmp .eql (.var 1) (.int .i64 0)) (.cmp .eql (.var 2) (.int .i64 0)) (.bool false)) (.bool true) (.ite (.cmp .eql (.var 4) (.int .i64 0)) (.cmp .eql (.var 5) (.int .i64 0)) (.bool false)))) (.bool false))]))
def Fs_l8Given : List Fun1 := [F_sFilmValid, G_sFracValid]
def F_l8Given : Fun1 := ofTree Fs_l8Given tr_l8Given
-- part wide
/-- The k-th layer's index. -/
def layI (c : Value) (k : Nat) : Q := (rq c k 0, rq c k 1, rq c k 2)
def wideOk (x c : Value) (a b : Q) : Bool := (allB (layP c) 0 (rlen x) && decide (lenV x ≤ 8)) && idxQ a && idxQ b
def wN (c : Value) (n k : Nat) : CF := idxF (layI c (n - 1 - k))
def wT (c : Value) (n k : Nat) : Int := rq c (n - 1 - k) 3
def wFilmSpec : Spec := fun ins K => Fit4 (ins.getD 0 undef) (ins.getD 7 undef) ∧
  (wideOk (ins.getD 0 undef) (ins.getD 7 undef) (q3 ins 1) (q3 ins 4) = true → ∀ v, WideRes (wN (ins.getD 7 undef) (rlen (ins.getD 0 undef))) (wT (ins.getD 7 undef) (rlen (ins.getD 0 undef))) (idxF (q3 ins 1)) (idxF (q3 ins 4)) (rlen (ins.getD 0 undef)) v → K [v, .bool true]) ∧
  (wideOk (ins.getD 0 undef) (ins.getD 7 undef) (q3 ins 1) (q3 ins 4) = false → K [cxv (0, 0), .bool false])
theorem idx_val {v : Q} (h : idxQ v = true) : validQ v = true ∧ ¬ (v.1 = 0 ∧ v.2.1 = 0) := by
  unfold idxQ at h
  rw [Bool.and_eq_true] at h
  refine ⟨h.1, fun hz => ?_⟩
  rw [hz.1, hz.2] at h
  simp at h
theorem layP_val {c : Value} {k : Nat} (h : layP c k = true) : idxQ (layI c k) = true ∧ 0 ≤ rq c k 3 ∧ rq c k 3 ≤ 3 := by
  unfold layP at h
  rw [Bool.and_eq_true] at h
  refine ⟨h.1, ?_⟩
  have := h.2
  simp only [inRg, Bool.and_eq_true, decide_eq_true_eq] at this
  exact this
/-- All that a film that is valid says. -/
theorem wide_facts {x c : Value} {a b : Q} {n : Nat} (hn : rlen x = n) (h : wideOk x c a b = true) : n ≤ 8 ∧ (∀ k, k < n → Dv (-36) 36 (wN c n k) ∧ 0 ≤ wT c n k ∧ wT c n k ≤ 3 ∧ validQ (layI c (n - 1 - k)) = true) ∧ idxQ a = true ∧ idxQ b = true ∧ BdC 36 (idxF a) ∧ BdC 36 (idxF b) := by
  unfold wideOk at h
  rw [hn] at h
  simp only [Bool.and_eq_true, decide_eq_true_eq] at h
  obtain ⟨⟨⟨h1, h2⟩, h3⟩, h4⟩ := h
  have h8 : n ≤ 8 := by unfold rlen at hn; omega
  obtain ⟨a1, a2⟩ := idx_val h3
  obtain ⟨b1, b2⟩ := idx_val h4
  refine ⟨h8, fun k hk => ?_, h3, h4, (idx_dv a1 a2).bd, (idx_dv b1 b2).bd⟩
  obtain ⟨p1, p2, p3⟩ := layP_val (allB_get h1 (n - 1 - k) (Nat.zero_le _) (by omega))
  obtain ⟨v1, v2⟩ := idx_val p1
  exact ⟨idx_dv v1 v2, p2, p3, v1⟩
theorem odd_ok {c : Value} {n k : Nat} {b : CF} (hn : n ≤ 8) (h : ∀ k, k < n → Dv (-36) 36 (wN c n k) ∧ 0 ≤ wT c n k ∧ wT c n k ≤ 3 ∧ validQ (layI c (n - 1 - k)) = true) (hb : BdC 36 b) (hk : k < n) : OddOk (wN c n k) (wRun (wN c n) (wT c n) b k).1 (wRun (wN c n) (wT c n) b k).2 := by
  obtain ⟨b1, b2⟩ := wRun_bd (qt := wT c n) hn (fun k hk => (h k hk).1) hb k (by omega)
  obtain ⟨e1, e2, e3, e4, _⟩ := odd_bd (h k hk).1 b1 b2 (by omega) (by omega)
  exact ⟨e1, e2, e3, e4⟩
theorem fw_use {ins : List Value} {v : Q} (he : q3 ins 0 = v) (hv : validQ v = true) {K : List Value → Prop} (hk : K [cxv (idxF v), .bool true]) : fWideSpec ins K := by
  subst he
  exact ⟨fun _ => hk, fun h => by rw [hv] at h; cases h⟩
theorem wf_use {ins : List Value} {K : List Value → Prop} {x c : Value} {a b : Q} {n : Nat} (e0 : ins.getD 0 undef = x) (e7 : ins.getD 7 undef = c) (ea : q3 ins 1 = a) (eb : q3 ins 4 = b) (hn : rlen x = n) (fit : Fit4 x c)
    (h1 : wideOk x c a b = true → ∀ v, WideRes (wN c n) (wT c n) (idxF a) (idxF b) n v → K [v, .bool true]) (h0 : wideOk x c a b = false → K [cxv (0, 0), .bool false]) : wFilmSpec ins K := by
  subst e0 e7 ea eb hn
  exact ⟨fit, h1, h0⟩
def G_l8Given : Fun1 := ⟨fun ins => Fit4 (ins.getD 0 undef) (ins.getD 7 undef), fun ins => [.bool (wideOk (ins.getD 0 undef) (ins.getD 7 undef) (q3 ins 1) (q3 ins 4))]⟩
theorem as_l8Given (ins : List Value) (ht : TypedL [.sl, .int .i64, .int .i64, .int .i64, .int .i64, .int .i64, .int .i64, .row .i64 4] ins) (hp : G_l8Given.pre ins) : F_l8Given.pre ins ∧ F_l8Given.out ins = G_l8Given.out ins := by
  obtain ⟨x, r, rfl, hx, ht1⟩ := TypedL_cons ht
  obtain ⟨a0, r, rfl, _, ht2⟩ := int_cons ht1
  obtain ⟨a1, r, rfl, _, ht3⟩ := int_cons ht2
  obtain ⟨a2, r, rfl, _, ht4⟩ := int_cons ht3
  obtain ⟨b0', r, rfl, _, ht5⟩ := int_cons ht4
  obtain ⟨b1, r, rfl, _, ht6⟩ := int_cons ht5
  obtain ⟨b2, r, rfl, _, ht7⟩ := int_cons ht6
  obtain ⟨c, r, rfl, hc, ht8⟩ := TypedL_cons ht7
  obtain rfl := TypedL_nil ht8
  have hp : Fit4 x c := hp
  have hout : G_l8Given.out [x, .int .i64 a0, .int .i64 a1, .int .i64 a2, .int .i64 b0', .int .i64 b1, .int .i64 b2, c] = [.bool ((allB (layP c) 0 (rlen x) && decide (lenV x ≤ 8)) && (validI a0 a1 a2 && !(a0 == 0 && a1 == 0)) && (validI b0' b1 b2 && !(b0' == 0 && b1 == 0)))] := rfl
  rw [hout]
  simp only [F_l8Given, tr_l8Given, Fs_l8Given, F_sFilmValid, F_iFilmValid, G_sFracValid, hp, ofTree, okT, okE, evalT, evalE, evsIn, ev, callF, preF, hasF, needs, i0, b0, toI_int, toB_bool, List.getD_cons_zero, List.getD_cons_succ, List.cons_append, List.nil_append, List.replicate, if_true, if_false, Bool.false_eq_true, and_true, true_and, implies_true, forall_const, false_implies, cmpI, Bool.not_true, Bool.not_false, Bool.true_and, Bool.false_and, Bool.and_true, Bool.and_false, reduceIte, List.append_nil, reduceCtorEq]
  generalize (allB (layP c) 0 (rlen x) && decide (lenV x ≤ 8)) = V at *
  generalize validI a0 a1 a2 = A at *
  generalize validI b0' b1 b2 = B at *
  generalize (a0 == 0) = p at *
  generalize (a1 == 0) = q at *
  generalize (b0' == 0) = u at *
  generalize (b1 == 0) = w at *
  cases V <;> cases A <;> cases B <;> cases p <;> cases q <;> cases u <;> cases w <;> simp

def tr_iFilmWide : Tr :=
  (.evs [.call 0 [(.var 0), (.var 7)] none 1,
    .call 1 [(.var 1), (.var 2), (.var 3)] (some (.not (.not (.var 8)))) 1,
    .call 1 [(.var 4), (.var 5), (.var 6)] (some (.not (.ite (.not (.var 8)) (.bool true) (.not (.var 9))))) 1]
  (.ite (.ite (.ite (.not (.var 8)) (.bool true) (.not (.var 9))) (.bool true) (.not (.var 10)))
  (.ret [(.val (.complex .f64 0 0)), (.bool false)])
  (.evs [.call 2 [(.var 4), (.var 5), (.var 6)] none 2]
   (.evs [.call 3 [(.var 0), (.var 7)] none 2]
   (.lp 0 [(.int .i64 0), (.val (.complex .f64 4607182418800017408 0)), (.var 11)] [.int .i64, .cpx .f64, .cpx .f64]
   (.ite (.cmp .lss (.var 15) (.len (.var 13)))
    (.evs [.need [(.inb (.var 14) (.var 15) 4)]]
     (.evs [.call 2 [(.sel (.var 14) (.var 15) 4 0), (.sel (.var 14) (.var 15) 4 1), (.sel (.var 14) (.var 15) 4 2)] none 2]
     (.evs [.need [(.bool true)]]
     (.ite (.cmp .eql (.ar .rem .i64 (.sel (.var 14) (.var 15) 4 3) (.int .i64 2)) (.int .i64 1))
     (.evs [.call 4 [(.val (.complex .f64 0 4607182418800017408)), (.var 17)] none 1,
        .call 5 [(.var 20), (.var 18)] none 1,
        .call 4 [(.val (.complex .f64 0 4607182418800017408)), (.var 18)] none 1,
        .call 4 [(.var 22), (.var 16)] none 1]
      (.ite (.cmp .geq (.sel (.var 14) (.var 15) 4 3) (.int .i64 2))
      (.next 0 [(.ar .add .i64 (.var 15) (.int .i64 1)), (.fneg (.var 21)), (.fneg (.var 23))])
      (.next 0 [(.ar .add .i64 (.var 15) (.int .i64 1)), (.var 21), (.var 23)])))
     (.ite (.cmp .geq (.sel (.var 14) (.var 15) 4 3) (.int .i64 2))
      (.next 0 [(.ar .add .i64 (.var 15) (.int .i64 1)), (.fneg (.var 16)), (.fneg (.var 17))])
      (.next 0 [(.ar .add .i64 (.var 15) (.int .i64 1)), (.var 16), (.var 17)]))))))
    (.evs [.call 2 [(.var 1), (.var 2), (.var 3)] none 2]
     (.evs [.call 4 [(.var 18), (.var 16)] none 1]
     (.evs [.prim (.ca .sub .f64) [(.var 20), (.var 17)],
       .prim (.ca .add .f64) [(.var 20), (.var 17)],
       .call 5 [(.var 21), (.var 22)] none 1]
     (.ret [(.var 23), (.bool true)]))))))))))
def Ss_iFilmWide : List Spec := [F_iFilmValid.spec, G_indexOk.spec, SP_iFracWide, SP_revL, SP_iWideTimes, SP_iWideOver]
def SP_iFilmWide : Spec := wFilmSpec
theorem film_of {ins : List Value} (ht : TypedL [.sl, .int .i64, .int .i64, .int .i64, .int .i64, .int .i64, .int .i64, .row .i64 4] ins) (hf : Fit4 (ins.getD 0 undef) (ins.getD 7 undef)) :
    ∃ (a : Option Addr) (n cap : Nat) (c : Value) (g : Nat → Int), ins = [.slice a n cap, .int .i64 (g 0), .int .i64 (g 1), .int .i64 (g 2), .int .i64 (g 3), .int .i64 (g 4), .int .i64 (g 5), c] ∧ c.cells.size = n * 4 ∧ n ≤ 9223372036854775807 ∧ HasTy (.row .i64 4) c := by
  obtain ⟨x, r, rfl, hx, ht1⟩ := TypedL_cons ht
  obtain ⟨a0, r, rfl, _, ht2⟩ := int_cons ht1
  obtain ⟨a1, r, rfl, _, ht3⟩ := int_cons ht2
  obtain ⟨a2, r, rfl, _, ht4⟩ := int_cons ht3
  obtain ⟨b0', r, rfl, _, ht5⟩ := int_cons ht4
  obtain ⟨b1, r, rfl, _, ht6⟩ := int_cons ht5
  obtain ⟨b2, r, rfl, _, ht7⟩ := int_cons ht6
  obtain ⟨c, r, rfl, hc, ht8⟩ := TypedL_cons ht7
  obtain rfl := TypedL_nil ht8
  obtain ⟨a, n, cap, rfl, hc4, hn⟩ : Fit4 x c := hf
  exact ⟨a, n, cap, c, fun i => match i with | 0 => a0 | 1 => a1 | 2 => a2 | 3 => b0' | 4 => b1 | _ => b2, rfl, hc4, hn, hc⟩
theorem sat_iFilmWide (P : Program) (ins : List Value) (K : List Value → Prop) (ht : TypedL [.sl, .int .i64, .int .i64, .int .i64, .int .i64, .int .i64, .int .i64, .row .i64 4] ins) (h : SP_iFilmWide ins K) : sat P Ss_iFilmWide tr_iFilmWide ins [] K := by
  obtain ⟨hf, h1, h0⟩ := h
  obtain ⟨a, n, cap, c, g, rfl, hc, hn, hcT⟩ := film_of ht hf
  have h1 : wideOk (.slice a n cap) c (g 0, g 1, g 2) (g 3, g 4, g 5) = true → ∀ v, WideRes (wN c n) (wT c n) (idxF (g 0, g 1, g 2)) (idxF (g 3, g 4, g 5)) n v → K [v, .bool true] := h1
  have h0 : wideOk (.slice a n cap) c (g 0, g 1, g 2) (g 3, g 4, g 5) = false → K [cxv (0, 0), .bool false] := h0
  have hw : wideOk (.slice a n cap) c (g 0, g 1, g 2) (g 3, g 4, g 5) = ((allB (layP c) 0 n && decide ((n : Int) ≤ 8)) && idxQ (g 0, g 1, g 2) && idxQ (g 3, g 4, g 5)) := rfl
  have fit : Fit4 (.slice a n cap) c := ⟨a, n, cap, rfl, hc, hn⟩
  refine evs_step (call_step (sp := F_iFilmValid.spec) rfl ⟨fit, ?_⟩)
  have eV : F_iFilmValid.out [.slice a n cap, c] = [.bool (allB (layP c) 0 n && decide ((n : Int) ≤ 8))] := rfl
  show evSat P _ _ ([Value.slice a n cap, .int .i64 (g 0), .int .i64 (g 1), .int .i64 (g 2), .int .i64 (g 3), .int .i64 (g 4), .int .i64 (g 5), c] ++ F_iFilmValid.out [.slice a n cap, c]) _
  rw [eV]
  cases hV : (allB (layP c) 0 n && decide ((n : Int) ≤ 8)) with
  | false =>
    refine ⟨fun h => (by cases h), fun _ => ⟨fun h => (by cases h), fun _ => evs_nil (sat_ite1 rfl ?_)⟩⟩
    exact h0 (by rw [hw, hV]; rfl)
  | true =>
    refine ⟨fun _ => ⟨trivial, ?_⟩, fun h => (by cases h)⟩
    have eA : G_indexOk.out [.int .i64 (g 0), .int .i64 (g 1), .int .i64 (g 2)] = [.bool (idxQ (g 0, g 1, g 2))] := rfl
    show evSat P _ _ ([Value.slice a n cap, .int .i64 (g 0), .int .i64 (g 1), .int .i64 (g 2), .int .i64 (g 3), .int .i64 (g 4), .int .i64 (g 5), c, .bool true] ++ G_indexOk.out [.int .i64 (g 0), .int .i64 (g 1), .int .i64 (g 2)]) _
    rw [eA]
    cases hA : idxQ (g 0, g 1, g 2) with
    | false =>
      refine ⟨fun h => (by cases h), fun _ => evs_nil (sat_ite1 rfl ?_)⟩
      exact h0 (by rw [hw, hV, hA]; rfl)
    | true =>
      refine ⟨fun _ => ⟨trivial, ?_⟩, fun h => (by cases h)⟩
      have eB : G_indexOk.out [.int .i64 (g 3), .int .i64 (g 4), .int .i64 (g 5)] = [.bool (idxQ (g 3, g 4, g 5))] := rfl
      show evSat P _ _ ([Value.slice a n cap, .int .i64 (g 0), .int .i64 (g 1), .int .i64 (g 2), .int .i64 (g 3), .int .i64 (g 4), .int .i64 (g 5), c, .bool true, .bool true] ++ G_indexOk.out [.int .i64 (g 3), .int .i64 (g 4), .int .i64 (g 5)]) _
      rw [eB]
      cases hB : idxQ (g 3, g 4, g 5) with
      | false => exact evs_nil (sat_ite1 rfl (h0 (by rw [hw, hV, hA, hB]; rfl)))
      | true =>
        have hok : wideOk (.slice a n cap) c (g 0, g 1, g 2) (g 3, g 4, g 5) = true := by rw [hw, hV, hA, hB]; rfl
        have hK := h1 hok
        obtain ⟨h8, hl, _, _, bA, bB⟩ := wide_facts (n := n) rfl hok
        refine evs_nil (sat_ite0 rfl (evs_step (call_step (sp := fWideSpec) rfl (fw_use (v := (g 3, g 4, g 5)) rfl (idx_val hB).1 (evs_nil ?_)))))
        refine evs_step (call_step (sp := revSpec) rfl ⟨fit, by show n ≤ 1048576; omega, fun a2 cap2 => evs_nil ?_⟩)
        show sat P _ _ [Value.slice a n cap, .int .i64 (g 0), .int .i64 (g 1), .int .i64 (g 2), .int .i64 (g 3), .int .i64 (g 4), .int .i64 (g 5), c, .bool true, .bool true, .bool true, cxv (idxF (g 3, g 4, g 5)), .bool true, .slice a2 n cap2, revR c n] _ K
        refine ⟨fun vs => ∃ k : Nat, k ≤ n ∧ vs = [.int .i64 k, cxv (wRun (wN c n) (wT c n) (idxF (g 3, g 4, g 5)) k).1, cxv (wRun (wN c n) (wT c n) (idxF (g 3, g 4, g 5)) k).2], fun vs => n - (toI (vs.getD 0 undef)).toNat, ⟨0, Nat.zero_le _, rfl⟩, ?_⟩
        rintro vs hty ⟨k, hk, rfl⟩
        refine sat_ite (b := decide ((k : Int) < (n : Int))) rfl (fun h => ?_) (fun h => ?_)
        · have hlt : k < n := by simpa using h
          have hin := inb_ok (revR_size c n) hlt
          have e0 : rq (revR c n) k 0 = rq c (n - 1 - k) 0 := revR_rq c hlt (by omega)
          have e1 : rq (revR c n) k 1 = rq c (n - 1 - k) 1 := revR_rq c hlt (by omega)
          have e2 : rq (revR c n) k 2 = rq c (n - 1 - k) 2 := revR_rq c hlt (by omega)
          have e3 : rq (revR c n) k 3 = wT c n k := revR_rq c hlt (by omega)
          have eI : (rq (revR c n) k 0, rq (revR c n) k 1, rq (revR c n) k 2) = layI c (n - 1 - k) := by rw [e0, e1, e2]; rfl
          obtain ⟨_, t0, t3, hv⟩ := hl k hlt
          obtain ⟨o1, o2, o3, o4⟩ := odd_ok (b := idxF (g 3, g 4, g 5)) h8 hl bB hlt
          have hst : wRun (wN c n) (wT c n) (idxF (g 3, g 4, g 5)) (k + 1) = wStep (wN c n k) (wT c n k) (wRun (wN c n) (wT c n) (idxF (g 3, g 4, g 5)) k).1 (wRun (wN c n) (wT c n) (idxF (g 3, g 4, g 5)) k).2 := rfl
          have hnx : ∀ u w : CF, wStep (wN c n k) (wT c n k) (wRun (wN c n) (wT c n) (idxF (g 3, g 4, g 5)) k).1 (wRun (wN c n) (wT c n) (idxF (g 3, g 4, g 5)) k).2 = (u, w) → (∃ j : Nat, j ≤ n ∧ [Value.int .i64 (IntKind.i64.wrap ((k : Int) + 1)), cxv u, cxv w] = [.int .i64 j, cxv (wRun (wN c n) (wT c n) (idxF (g 3, g 4, g 5)) j).1, cxv (wRun (wN c n) (wT c n) (idxF (g 3, g 4, g 5)) j).2]) ∧
              n - (toI (.int .i64 (IntKind.i64.wrap ((k : Int) + 1)))).toNat < n - (toI (.int .i64 (k : Int))).toNat := fun u w e => by
            rw [wrap_next hlt hn]
            refine ⟨⟨k + 1, by omega, by rw [hst, e]⟩, ?_⟩
            simp only [toI_int, Int.toNat_natCast]
            omega
          generalize hpq : wRun (wN c n) (wT c n) (idxF (g 3, g 4, g 5)) k = pq at *
          refine evs_step ⟨fun e he => by rw [List.mem_singleton.1 he]; exact hin, evs_nil (evs_step (call_step (sp := fWideSpec) rfl (fw_use (v := layI c (n - 1 - k)) (by exact eI) hv (evs_nil ?_))))⟩
          show sat P _ _ [Value.slice a n cap, .int .i64 (g 0), .int .i64 (g 1), .int .i64 (g 2), .int .i64 (g 3), .int .i64 (g 4), .int .i64 (g 5), c, .bool true, .bool true, .bool true, cxv (idxF (g 3, g 4, g 5)), .bool true, .slice a2 n cap2, revR c n, .int .i64 k, cxv pq.1, cxv pq.2, cxv (idxF (layI c (n - 1 - k))), .bool true] _ K
          have eW : idxF (layI c (n - 1 - k)) = wN c n k := rfl
          rw [eW]
          refine evs_step ⟨fun e he => by rw [List.mem_singleton.1 he]; rfl, evs_nil ?_⟩
          generalize hW : wN c n k = W at *
          generalize hT : wT c n k = T at *
          refine sat_ite (b := (T.tmod 2 == 1)) (by show Value.bool ((rq (revR c n) k 3).tmod 2 == 1) = _; rw [e3]) (fun h => ?_) (fun h => ?_)
          · refine evs_step (call_step (sp := wTimesSpec) rfl (wm_use (x := iF) (y := pq.2) o1 (call_step (sp := wOverSpec) rfl (wq_use (x := wMul iF pq.2) (y := W) o2 (call_step (sp := wTimesSpec) rfl (wm_use (x := iF) (y := W) o3 (call_step (sp := wTimesSpec) rfl (wm_use (x := wMul iF W) (y := pq.1) o4 (evs_nil ?_)))))))))
            refine sat_ite (b := decide (T ≥ 2)) (by show Value.bool (decide (rq (revR c n) k 3 ≥ 2)) = _; rw [e3]) (fun h' => ?_) (fun h' => ?_)
            · obtain rfl : T = 3 := by
                rcases (by omega : T = 0 ∨ T = 1 ∨ T = 2 ∨ T = 3) with rfl | rfl | rfl | rfl <;> first | rfl | (exact absurd h (by decide)) | (exact absurd h' (by decide))
              exact hnx _ _ rfl
            · obtain rfl : T = 1 := by
                rcases (by omega : T = 0 ∨ T = 1 ∨ T = 2 ∨ T = 3) with rfl | rfl | rfl | rfl <;> first | rfl | (exact absurd h (by decide)) | (exact absurd h' (by decide))
              exact hnx _ _ rfl
          · refine sat_ite (b := decide (T ≥ 2)) (by show Value.bool (decide (rq (revR c n) k 3 ≥ 2)) = _; rw [e3]) (fun h' => ?_) (fun h' => ?_)
            · obtain rfl : T = 2 := by
                rcases (by omega : T = 0 ∨ T = 1 ∨ T = 2 ∨ T = 3) with rfl | rfl | rfl | rfl <;> first | rfl | (exact absurd h (by decide)) | (exact absurd h' (by decide))
              exact hnx _ _ rfl
            · obtain rfl : T = 0 := by
                rcases (by omega : T = 0 ∨ T = 1 ∨ T = 2 ∨ T = 3) with rfl | rfl | rfl | rfl <;> first | rfl | (exact absurd h (by decide)) | (exact absurd h' (by decide))
              exact hnx _ _ rfl
        · have hge : ¬ k < n := by simpa using h
          obtain rfl : k = n := by omega
          obtain ⟨m1, m2, m3, _, _⟩ := wEnds_bd (qt := wT c k) h8 (fun j hj => (hl j hj).1) bA bB
          refine evs_step (call_step (sp := fWideSpec) rfl (fw_use (v := (g 0, g 1, g 2)) rfl (idx_val hA).1 (evs_nil ?_)))
          refine evs_step (call_step (sp := wTimesSpec) rfl (wm_use (x := idxF (g 0, g 1, g 2)) m1 (evs_nil ?_)))
          refine evs_step (ca_step (.inr rfl) rfl rfl m2 (ca_step (.inl rfl) rfl rfl m3 (call_step (sp := wOverSpec) rfl ⟨_, _, rfl, fun v hv => evs_nil (hK v hv)⟩)))

def tr_zeroAlike : Tr :=
  (.ite (.fcmp .neq (.var 0) (.var 0))
  (.ret [(.fcmp .neq (.var 1) (.var 1))])
  (.evs [.prim (.fa .quo .f64) [(.val (.float .f64 4607182418800017408)), (.var 0)],
     .prim (.fa .quo .f64) [(.val (.float .f64 4607182418800017408)), (.var 1)]]
   (.ret [(.ite (.fcmp .eql (.var 0) (.var 1)) (.fcmp .eql (.var 2) (.var 3)) (.bool false))])))
def Fs_zeroAlike : List Fun1 := []
theorem one_over {x : Nat} (h : Op.Complex.isNaN x = false) : ∃ r, floatBits .quo .f64 4607182418800017408 x = some r ∧ Op.Complex.isNaN r = false := by
  have e : floatBits .quo .f64 4607182418800017408 x = ((D.read 4607182418800017408).quotient 54 (D.read x)).map D.write := rfl
  rw [e, show D.read 4607182418800017408 = .number false 4503599627370496 (-52) by decide +kernel]
  cases hr : D.read x with
  | nan s t =>
    have h : (D.read x).isNaN = false := h
    rw [hr] at h
    cases h
  | infinity s => exact ⟨_, rfl, by cases s <;> decide +kernel⟩
  | number s m i =>
    by_cases hm : m = 0
    · subst hm
      exact ⟨_, rfl, by cases s <;> decide +kernel⟩
    · have e2 : (Ieee.Datum.number false 4503599627370496 (-52)).quotient 54 (.number s m i) = some (.number (false ^^ s) (2 * ((4503599627370496 <<< (54 + m.log2 - (4503599627370496 : Nat).log2)) / m) + ((4503599627370496 <<< (54 + m.log2 - (4503599627370496 : Nat).log2)) % m != 0).toNat) (-52 - i - ((54 + m.log2 - (4503599627370496 : Nat).log2 : Nat) : Int) - 1)) := by
        show (if m = 0 then _ else _) = _
        rw [if_neg hm]
      rw [e2]
      exact ⟨_, rfl, write_notNaN _ _ _⟩
def SP_zeroAlike : Spec := fun ins K => ∃ x y : Nat, ins = [.float .f64 x, .float .f64 y] ∧ SameF x y ∧ K [.bool true]
theorem sat_zeroAlike (P : Program) (ins : List Value) (K : List Value → Prop) (ht : TypedL [.flt .f64, .flt .f64] ins) (h : SP_zeroAlike ins K) : sat P (specsOf Fs_zeroAlike) tr_zeroAlike ins [] K := by
  obtain ⟨x, y, rfl, hs, hK⟩ := h
  have nan : Op.Complex.isNaN x = true → Op.Complex.isNaN y = true → sat P (specsOf Fs_zeroAlike) tr_zeroAlike [.float .f64 x, .float .f64 y] [] K := fun nx ny => by
    refine sat_ite1 ?_ ?_
    · show Value.bool (FloatKind.f64.format.order x x != some .eq) = _
      rw [ord_nan nx]; rfl
    · show K [.bool (FloatKind.f64.format.order y y != some .eq)]
      rw [ord_nan ny]
      exact hK
  rcases hs with rfl | ⟨nx, ny⟩
  · cases nx : Op.Complex.isNaN x with
    | true => exact nan nx nx
    | false =>
      refine sat_ite0 ?_ ?_
      · show Value.bool (FloatKind.f64.format.order x x != some .eq) = _
        rw [ord_self nx]; rfl
      obtain ⟨r, hq, nr⟩ := one_over nx
      refine evs_step (fa_step rfl rfl hq (fa_step rfl rfl hq (evs_nil ?_)))
      show K [if toB (Value.bool (FloatKind.f64.format.order x x == some .eq)) = true then Value.bool (FloatKind.f64.format.order r r == some .eq) else .bool false]
      rw [ord_self nx, ord_self nr]
      exact hK
  · exact nan nx ny

def tr_wideAlike : Tr :=
  (.evs [.call 0 [(.cre (.var 0)), (.cre (.var 1))] none 1,
    .call 0 [(.cim (.var 0)), (.cim (.var 1))] (some (.var 2)) 1]
  (.ret [(.ite (.var 2) (.var 3) (.bool false))]))
def Ss_wideAlike : List Spec := [SP_zeroAlike]
def SP_wideAlike : Spec := fun ins K => ∃ a b c d : Nat, ins = [.complex .f64 a b, .complex .f64 c d] ∧ SameF a c ∧ SameF b d ∧ K [.bool true]
theorem sat_wideAlike (P : Program) (ins : List Value) (K : List Value → Prop) (ht : TypedL [.cpx .f64, .cpx .f64] ins) (h : SP_wideAlike ins K) : sat P Ss_wideAlike tr_wideAlike ins [] K := by
  obtain ⟨a, b, c, d, rfl, h1, h2, hK⟩ := h
  exact evs_step (call_step (sp := SP_zeroAlike) rfl ⟨a, c, rfl, h1, ⟨fun _ => ⟨b, d, rfl, h2, evs_nil hK⟩, fun h => (by cases h)⟩⟩)

def tr_withinF : Tr :=
  (.evs [.prim (.fa .sub .f64) [(.var 0), (.var 1)],
    .prim (.fa .sub .f64) [(.var 1), (.var 0)]]
  (.ret [(.ite (.fcmp .lss (.var 3) (.var 2)) (.fcmp .lss (.var 4) (.var 2)) (.bool false))]))
def Fs_withinF : List Fun1 := []
def SP_withinF : Spec := fun ins K => ∃ x y m u w : Nat, ins = [.float .f64 x, .float .f64 y, .float .f64 m] ∧ (floatBits .sub .f64 x y = some u ∧ FloatKind.f64.format.order u m = some .lt) ∧ (floatBits .sub .f64 y x = some w ∧ FloatKind.f64.format.order w m = some .lt) ∧ K [.bool true]
theorem sat_withinF (P : Program) (ins : List Value) (K : List Value → Prop) (ht : TypedL [.flt .f64, .flt .f64, .flt .f64] ins) (h : SP_withinF ins K) : sat P (specsOf Fs_withinF) tr_withinF ins [] K := by
  obtain ⟨x, y, m, u, w, rfl, ⟨h1, h2⟩, ⟨h3, h4⟩, hK⟩ := h
  refine evs_step (fa_step rfl rfl h1 (fa_step rfl rfl h3 (evs_nil ?_)))
  show K [if toB (Value.bool (FloatKind.f64.format.order u m == some .lt)) = true then Value.bool (FloatKind.f64.format.order w m == some .lt) else .bool false]
  rw [h2, h4]
  exact hK

def tr_l91FracS : Tr :=
  (.evs [.call 0 [(.int .i64 40), (.var 0), (.var 1)] none 3]
  (.ite (.cmp .eql (.var 2) (.int .i64 0))
  (.ret [(.int .i64 2), (.int .i64 4), (.int .i64 2), (.var 3), (.var 4)])
  (.ite (.cmp .eql (.var 2) (.int .i64 1))
   (.ret [(.int .i64 1), (.int .i64 0), (.int .i64 0), (.var 3), (.var 4)])
   (.ite (.cmp .eql (.var 2) (.int .i64 2))
    (.ret [(.int .i64 2000000000), (.int .i64 1), (.int .i64 7), (.var 3), (.var 4)])
    (.ite (.cmp .eql (.var 2) (.int .i64 3))
     (.ret [(.int .i64 0), (.int .i64 0), (.int .i64 1), (.var 3), (.var 4)])
     (.evs [.call 0 [(.int .i64 13), (.var 3), (.var 4)] none 3,
        .call 0 [(.int .i64 9), (.var 6), (.var 7)] none 3,
        .call 0 [(.int .i64 2), (.var 9), (.var 10)] none 3,
        .call 0 [(.int .i64 5), (.var 12), (.var 13)] none 3,
        .call 1 [(.ar .sub .i64 (.var 5) (.int .i64 6)), (.ar .mul .i64 (.ar .sub .i64 (.var 8) (.int .i64 4)) (.var 11)), (.ar .add .i64 (.int .i64 1) (.var 14))] none 4]
      (.ret [(.var 17), (.var 18), (.var 19), (.var 15), (.var 16)])))))))
def Ss_l91FracS (cb : CodeB) : List Spec := [(F_pickC cb).spec, G_l2Low.spec]
-- part single
def smallRow (c : Value) (n : Nat) : Prop := ∀ k, k < n → validQ (layI c k) = true → small (layI c k)
theorem tdiv_six {x : Int} {g : Nat} (hx : -6 ≤ x ∧ x ≤ 6) : -6 ≤ x.tdiv g ∧ x.tdiv g ≤ 6 := by
  have h1 : (x.tdiv g).natAbs ≤ x.natAbs := by
    rw [Int.natAbs_tdiv]
    exact Nat.div_le_self _ _
  omega
theorem small_low {a b c : Int} {q : Q} (h : lowI a b c = some q) (ha : -6 ≤ a ∧ a ≤ 6) (hb : -6 ≤ b ∧ b ≤ 6) (hc : 1 ≤ c ∧ c ≤ 8) : small q := by
  have hv := low_valid (v := q) (by unfold lowOk; omega : lowOk a b c) h
  have hd := valid_den hv
  unfold lowI at h
  simp only at h
  split at h
  · cases h
    have ta := tdiv_six (g := gcd3 a b c) ha
    have tb := tdiv_six (g := gcd3 a b c) hb
    have tc : (c.tdiv (gcd3 a b c)).natAbs ≤ c.natAbs := by
      rw [Int.natAbs_tdiv]
      exact Nat.div_le_self _ _
    unfold small
    dsimp only at *
    omega
  · cases h
/-- An index drawn: the place has moved on by ten at most. -/
def idxS (cb : CodeB) : Spec := fun ins K => ∃ b z, ins = [b, .int .i64 z] ∧ goodSl cb b ∧ 0 ≤ z ∧ z ≤ 100000 ∧ ∀ (v : Q) b' z', (validQ v = true → small v) → goodSl cb b' → z ≤ z' → z' ≤ z + 10 → K [.int .i64 v.1, .int .i64 v.2.1, .int .i64 v.2.2, b', .int .i64 z']
theorem low_use {cb : CodeB} {a b c : Int} (ha : -6 ≤ a ∧ a ≤ 6) (hb : -6 ≤ b ∧ b ≤ 6) (hc : 1 ≤ c ∧ c ≤ 8) {K : List Value → Prop} (hK : ∀ v t, (validQ v = true → small v) → K [.int .i64 v.1, .int .i64 v.2.1, .int .i64 v.2.2, .bool t]) : G_l2Low.spec [.int .i64 a, .int .i64 b, .int .i64 c] K := by
  refine ⟨by show lowOk a b c; unfold lowOk; omega, ?_⟩
  show K (fr4 (lowI a b c))
  cases h : lowI a b c with
  | none => exact hK zq false fun h => (by exact absurd h (by decide))
  | some q => exact hK q true fun _ => small_low h ha hb hc
def betwS (cb : CodeB) : Spec := fun ins K => drawPre cb ins ∧ ∀ a n cap c (g : Nat → Int), n ≤ 4 → HasTy (.row .i64 4) c → c.cells.size = n * 4 → smallRow c n → (validQ (g 0, g 1, g 2) = true → small (g 0, g 1, g 2)) → (validQ (g 3, g 4, g 5) = true → small (g 3, g 4, g 5)) → K [.slice a n cap, .int .i64 (g 0), .int .i64 (g 1), .int .i64 (g 2), .int .i64 (g 3), .int .i64 (g 4), .int .i64 (g 5), c]
def filmSpecS (cb : CodeB) : Spec := fun ins K => ∃ b z, ins = [b, .int .i64 z] ∧ goodSl cb b ∧ 0 ≤ z ∧ z ≤ 1000 ∧
  ∀ a n cap c b' z', n ≤ 4 → HasTy (.row .i64 4) c → c.cells.size = n * 4 → smallRow c n → goodSl cb b' → 0 ≤ z' → z' ≤ 2000 → K [.slice a n cap, b', .int .i64 z', c]
theorem law_betwS {P : Program} {cb : CodeB} {specs : List Spec} {t : Tr} {n : Nat} {ins : List Value} {K : List Value → Prop}
    (h : ∀ v a n cap c (g : Nat → Int), n ≤ 4 → HasTy (.row .i64 4) c → c.cells.size = n * 4 → smallRow c n → (validQ (g 0, g 1, g 2) = true → small (g 0, g 1, g 2)) → (validQ (g 3, g 4, g 5) = true → small (g 3, g 4, g 5)) → sat P (tySpec [.sl, .int .i64, .int .i64, .int .i64, .int .i64, .int .i64, .int .i64, .row .i64 4] (betwS cb) :: specs) t [v, .slice a n cap, .int .i64 (g 0), .int .i64 (g 1), .int .i64 (g 2), .int .i64 (g 3), .int .i64 (g 4), .int .i64 (g 5), c] [] K)
    (hp : (lawF cb).pre ins) (hK : K [.bool true]) :
    sat P (tySpec [.sl, .int .i64, .int .i64, .int .i64, .int .i64, .int .i64, .int .i64, .row .i64 4] (betwS cb) :: specs) (.ite (.cmp .gtr (.len (.var 0)) (.int .i64 1048576)) (.ret [.bool true]) (.evs [.call 0 [.var 0] none n] t)) ins [] K := by
  obtain ⟨a, m, cap, rfl, hm, hg⟩ := hp
  refine ⟨fun _ => hK, fun hc => ?_⟩
  have hm2 : m ≤ 1048576 := by
    have hc : Value.bool (decide ((m : Int) > 1048576)) = .bool false := hc
    simp only [Value.bool.injEq, decide_eq_false_iff_not] at hc
    omega
  exact ⟨⟨_, rfl, hg hm2⟩, fun a' n' cap' c g h1 h2 h3 h4 h5 h6 _ => h (.slice a m cap) a' n' cap' c g h1 h2 h3 h4 h5 h6⟩
def sN (c : Value) (n k : Nat) : CF := dnC (wN c n k)
def sTop (c : Value) (n : Nat) (a b : CF) : CF := sSub (sMul a (sRun (sN c n) (wT c n) b n).1) (sRun (sN c n) (wT c n) b n).2
def sBot (c : Value) (n : Nat) (a b : CF) : CF := sAdd (sMul a (sRun (sN c n) (wT c n) b n).1) (sRun (sN c n) (wT c n) b n).2
def sFilmSpec : Spec := fun ins K => (Fit4 (ins.getD 0 undef) (ins.getD 7 undef) ∧ rlen (ins.getD 0 undef) ≤ 4 ∧ smallRow (ins.getD 7 undef) (rlen (ins.getD 0 undef)) ∧ (validQ (q3 ins 1) = true → small (q3 ins 1)) ∧ (validQ (q3 ins 4) = true → small (q3 ins 4))) ∧
  (wideOk (ins.getD 0 undef) (ins.getD 7 undef) (q3 ins 1) (q3 ins 4) = true → ∀ v, SingRes (sTop (ins.getD 7 undef) (rlen (ins.getD 0 undef)) (dnC (idxF (q3 ins 1))) (dnC (idxF (q3 ins 4)))) (sBot (ins.getD 7 undef) (rlen (ins.getD 0 undef)) (dnC (idxF (q3 ins 1))) (dnC (idxF (q3 ins 4)))) v → K [v, .bool true]) ∧
  (wideOk (ins.getD 0 undef) (ins.getD 7 undef) (q3 ins 1) (q3 ins 4) = false → K [csv (0, 0), .bool false])
theorem sf_use {ins : List Value} {K : List Value → Prop} {x c : Value} {a b : Q} {n : Nat} (e0 : ins.getD 0 undef = x) (e7 : ins.getD 7 undef = c) (ea : q3 ins 1 = a) (eb : q3 ins 4 = b) (hn : rlen x = n) (fit : Fit4 x c) (h4 : n ≤ 4) (hr : smallRow c n) (ha : validQ a = true → small a) (hb : validQ b = true → small b)
    (h1 : wideOk x c a b = true → ∀ v, SingRes (sTop c n (dnC (idxF a)) (dnC (idxF b))) (sBot c n (dnC (idxF a)) (dnC (idxF b))) v → K [v, .bool true]) (h0 : wideOk x c a b = false → K [csv (0, 0), .bool false]) : sFilmSpec ins K := by
  subst e0 e7 ea eb hn
  exact ⟨⟨fit, h4, hr, ha, hb⟩, h1, h0⟩
theorem single_facts {x c : Value} {a b : Q} {n : Nat} (hn : rlen x = n) (h4 : n ≤ 4) (hr : smallRow c n) (ha : validQ a = true → small a) (hb : validQ b = true → small b) (h : wideOk x c a b = true) :
    (∀ k, k < n → Ix (sN c n k) ∧ 0 ≤ wT c n k ∧ wT c n k ≤ 3 ∧ validQ (layI c (n - 1 - k)) = true ∧ cConvBits .f64 (wN c n k).1 (wN c n k).2 .f32 = some (sN c n k)) ∧ idxQ a = true ∧ idxQ b = true ∧
      cConvBits .f64 (idxF a).1 (idxF a).2 .f32 = some (dnC (idxF a)) ∧ cConvBits .f64 (idxF b).1 (idxF b).2 .f32 = some (dnC (idxF b)) ∧ Ix (dnC (idxF a)) ∧ Ix (dnC (idxF b)) := by
  obtain ⟨_, hl, iA, iB, _, _⟩ := wide_facts hn h
  obtain ⟨a1, a2⟩ := idx_val iA
  obtain ⟨b1, b2⟩ := idx_val iB
  refine ⟨fun k hk => ?_, iA, iB, (idx_near a1 (ha a1)).1, (idx_near b1 (hb b1)).1, idx_ix a1 a2 (ha a1), idx_ix b1 b2 (hb b1)⟩
  obtain ⟨hd, t0, t3, hv⟩ := hl k hk
  have hs := hr (n - 1 - k) (by omega) hv
  have hnz : ¬ ((layI c (n - 1 - k)).1 = 0 ∧ (layI c (n - 1 - k)).2.1 = 0) := by
    unfold wideOk at h
    rw [hn] at h
    simp only [Bool.and_eq_true] at h
    obtain ⟨p1, _⟩ := layP_val (allB_get h.1.1.1 (n - 1 - k) (Nat.zero_le _) (by omega))
    exact (idx_val p1).2
  exact ⟨idx_ix hv hnz hs, t0, t3, hv, (idx_near hv hs).1⟩
theorem fs_use {ins : List Value} {v : Q} (he : q3 ins 0 = v) (hv : validQ v = true) (hc : cConvBits .f64 (idxF v).1 (idxF v).2 .f32 = some (dnC (idxF v))) {K : List Value → Prop} (hk : K [csv (dnC (idxF v)), .bool true]) : fSingleSpec ins K := by
  subst he
  exact ⟨hv, hc, hk⟩
theorem sm_use {x y : CF} (h1 : cConvBits .f32 x.1 x.2 .f64 = some (upC x)) (h2 : cConvBits .f32 y.1 y.2 .f64 = some (upC y)) (h3 : cMulBits (upC x).1 (upC x).2 (upC y).1 (upC y).2 = some (wMul (upC x) (upC y))) (h4 : cConvBits .f64 (wMul (upC x) (upC y)).1 (wMul (upC x) (upC y)).2 .f32 = some (sMul x y)) {K : List Value → Prop} (hk : K [csv (sMul x y)]) : sTimesSpec [csv x, csv y] K := ⟨x, y, rfl, h1, h2, h3, h4, hk⟩
/-- The four steps of an odd layer. -/
theorem oddS_steps {n p q : CF} (h : OddS n p q) {K1 : List Value → Prop} : (∀ {K : List Value → Prop}, K [csv (sMul iS q)] → sTimesSpec [csv iS, csv q] K) ∧ (∀ {K : List Value → Prop}, K [csv (sQuo (sMul iS q) n)] → sOverSpec [csv (sMul iS q), csv n] K) ∧ (∀ {K : List Value → Prop}, K [csv (sMul iS n)] → sTimesSpec [csv iS, csv n] K) ∧ (∀ {K : List Value → Prop}, K [csv (sMul (sMul iS n) p)] → sTimesSpec [csv (sMul iS n), csv p] K) := by
  obtain ⟨⟨a1, a2, a3, a4⟩, ⟨b1, b2, b3, b4⟩, ⟨c1, c2⟩, ⟨d1, d2, d3, d4⟩⟩ := h
  exact ⟨fun hk => sm_use a1 a2 a3 a4 hk, fun hk => sq_use b1 b2 b3 b4 hk, fun hk => sm_use a1 b1 c1 c2 hk, fun hk => sm_use d1 d2 d3 d4 hk⟩
theorem pick_useS {cb : CodeB} (hk : CodeOk cb) {m : Int} (hm : 1 ≤ m) (hm2 : m ≤ 1000) {b : Value} {z : Int} (hb : goodSl cb b) (h0 : 0 ≤ z) (hz : z ≤ 1000000000) {K : List Value → Prop} (hK : ∀ x, 0 ≤ x → x ≤ m - 1 → K [.int .i64 x, b, .int .i64 (z + 1)]) : (G_pick cb).spec [.int .i64 m, b, .int .i64 z] K := by
  have hn : I64 m := by unfold I64; omega
  obtain ⟨_, x, q2, q3, q4⟩ := pick_facts hk hb hn ⟨h0, hz⟩
  refine ⟨⟨hb, ⟨m, rfl, hn⟩, z, rfl, h0, hz⟩, ?_⟩
  have e : (G_pick cb).out [.int .i64 m, b, .int .i64 z] = [.int .i64 x, b, .int .i64 (z + 1)] := q2
  rw [e]
  exact hK x q3 (by omega)
def SP_l91FracS (cb : CodeB) : Spec := idxS cb
theorem sat_l91FracS (P : Program) (cb : CodeB) (hk : CodeOk cb) (ins : List Value) (K : List Value → Prop) (ht : TypedL [.sl, .int .i64] ins) (h : SP_l91FracS cb ins K) : sat P (Ss_l91FracS cb) tr_l91FracS ins [] K := by
  obtain ⟨b, z, rfl, hb, h0, hz, hK⟩ := h
  refine evs_step (call_step rfl (pick_useS hk (m := 40) (by omega) (by omega) hb h0 (by omega) fun x x0 x1 => evs_nil ?_))
  refine ⟨fun _ => hK (2, 4, 2) b (z + 1) (fun h => absurd h (by decide)) hb (by omega) (by omega), fun _ => ?_⟩
  refine ⟨fun _ => hK (1, 0, 0) b (z + 1) (fun h => absurd h (by decide)) hb (by omega) (by omega), fun _ => ?_⟩
  refine ⟨fun _ => hK (2000000000, 1, 7) b (z + 1) (fun _ => by unfold small; decide) hb (by omega) (by omega), fun _ => ?_⟩
  refine ⟨fun _ => hK (0, 0, 1) b (z + 1) (fun _ => by unfold small; decide) hb (by omega) (by omega), fun _ => ?_⟩
  refine evs_step (call_step rfl (pick_useS hk (m := 13) (by omega) (by omega) hb (z := z + 1) (by omega) (by omega) fun a a0 a1 => ?_))
  refine call_step rfl (pick_useS hk (m := 9) (by omega) (by omega) hb (z := z + 1 + 1) (by omega) (by omega) fun d d0 d1 => ?_)
  refine call_step rfl (pick_useS hk (m := 2) (by omega) (by omega) hb (z := z + 1 + 1 + 1) (by omega) (by omega) fun e e0 e1 => ?_)
  refine call_step rfl (pick_useS hk (m := 5) (by omega) (by omega) hb (z := z + 1 + 1 + 1 + 1) (by omega) (by omega) fun f f0 f1 => ?_)
  have hde : -4 ≤ (d - 4) * e ∧ (d - 4) * e ≤ 4 := by
    rcases (by omega : e = 0 ∨ e = 1) with rfl | rfl <;> omega
  have w1 : IntKind.i64.wrap (a - 6) = a - 6 := wrap_in (by omega)
  have w2 : IntKind.i64.wrap (d - 4) = d - 4 := wrap_in (by omega)
  have w3 : IntKind.i64.wrap ((d - 4) * e) = (d - 4) * e := wrap_in (by omega)
  have w4 : IntKind.i64.wrap (1 + f) = 1 + f := wrap_in (by omega)
  have e1 : ∀ K, G_l2Low.spec [.int .i64 (a - 6), .int .i64 ((d - 4) * e), .int .i64 (1 + f)] K → G_l2Low.spec [.int .i64 (IntKind.i64.wrap (a - 6)), .int .i64 (IntKind.i64.wrap (IntKind.i64.wrap (d - 4) * e)), .int .i64 (IntKind.i64.wrap (1 + f))] K := fun K h => by rw [w1, w2, w3, w4]; exact h
  refine call_step rfl (e1 _ (low_use (cb := cb) (by omega) (by omega) (by omega) fun v t hv => evs_nil ?_))
  exact hK v b (z + 1 + 1 + 1 + 1 + 1) hv hb (by omega) (by omega)

def tr_l92IndexS : Tr :=
  (.evs [.call 0 [(.int .i64 6), (.var 0), (.var 1)] none 3]
  (.ite (.cmp .eql (.var 2) (.int .i64 0))
  (.evs [.call 1 [(.var 3), (.var 4)] none 5]
   (.ret [(.var 5), (.var 6), (.var 7), (.var 8), (.var 9)]))
  (.evs [.call 0 [(.int .i64 5), (.var 3), (.var 4)] none 3,
     .call 0 [(.int .i64 3), (.var 6), (.var 7)] none 3,
     .call 0 [(.int .i64 2), (.var 9), (.var 10)] none 3,
     .call 0 [(.int .i64 2), (.var 12), (.var 13)] none 3,
     .call 2 [(.ar .add .i64 (.int .i64 2) (.var 5)), (.ar .mul .i64 (.ar .sub .i64 (.int .i64 1) (.var 8)) (.var 11)), (.ar .add .i64 (.int .i64 1) (.var 14))] none 4]
   (.ret [(.var 17), (.var 18), (.var 19), (.var 15), (.var 16)]))))
def Ss_l92IndexS (cb : CodeB) : List Spec := [(F_pickC cb).spec, (SP_l91FracS cb), G_l2Low.spec]
def SP_l92IndexS (cb : CodeB) : Spec := fun ins K => ∃ b z, ins = [b, .int .i64 z] ∧ goodSl cb b ∧ 0 ≤ z ∧ z ≤ 90000 ∧ ∀ (v : Q) b' z', (validQ v = true → small v) → goodSl cb b' → z ≤ z' → z' ≤ z + 20 → K [.int .i64 v.1, .int .i64 v.2.1, .int .i64 v.2.2, b', .int .i64 z']
theorem sat_l92IndexS (P : Program) (cb : CodeB) (hk : CodeOk cb) (ins : List Value) (K : List Value → Prop) (ht : TypedL [.sl, .int .i64] ins) (h : SP_l92IndexS cb ins K) : sat P (Ss_l92IndexS cb) tr_l92IndexS ins [] K := by
  obtain ⟨b, z, rfl, hb, h0, hz, hK⟩ := h
  refine evs_step (call_step rfl (pick_useS hk (m := 6) (by omega) (by omega) hb h0 (by omega) fun x x0 x1 => evs_nil ?_))
  refine ⟨fun _ => ?_, fun _ => ?_⟩
  · exact evs_step (call_step (sp := idxS cb) rfl ⟨b, z + 1, rfl, hb, by omega, by omega, fun v b' z' hv hb' z1 z2 => evs_nil (hK v b' z' hv hb' (by omega) (by omega))⟩)
  refine evs_step (call_step rfl (pick_useS hk (m := 5) (by omega) (by omega) hb (z := z + 1) (by omega) (by omega) fun a a0 a1 => ?_))
  refine call_step rfl (pick_useS hk (m := 3) (by omega) (by omega) hb (z := z + 1 + 1) (by omega) (by omega) fun d d0 d1 => ?_)
  refine call_step rfl (pick_useS hk (m := 2) (by omega) (by omega) hb (z := z + 1 + 1 + 1) (by omega) (by omega) fun e e0 e1 => ?_)
  refine call_step rfl (pick_useS hk (m := 2) (by omega) (by omega) hb (z := z + 1 + 1 + 1 + 1) (by omega) (by omega) fun f f0 f1 => ?_)
  have hde : -1 ≤ (1 - d) * e ∧ (1 - d) * e ≤ 1 := by
    rcases (by omega : e = 0 ∨ e = 1) with rfl | rfl <;> omega
  have w1 : IntKind.i64.wrap (2 + a) = 2 + a := wrap_in (by omega)
  have w2 : IntKind.i64.wrap (1 - d) = 1 - d := wrap_in (by omega)
  have w3 : IntKind.i64.wrap ((1 - d) * e) = (1 - d) * e := wrap_in (by omega)
  have w4 : IntKind.i64.wrap (1 + f) = 1 + f := wrap_in (by omega)
  have e1 : ∀ K, G_l2Low.spec [.int .i64 (2 + a), .int .i64 ((1 - d) * e), .int .i64 (1 + f)] K → G_l2Low.spec [.int .i64 (IntKind.i64.wrap (2 + a)), .int .i64 (IntKind.i64.wrap (IntKind.i64.wrap (1 - d) * e)), .int .i64 (IntKind.i64.wrap (1 + f))] K := fun K h => by rw [w1, w2, w3, w4]; exact h
  refine call_step rfl (e1 _ (low_use (cb := cb) (by omega) (by omega) (by omega) fun v t hv => evs_nil ?_))
  exact hK v b (z + 1 + 1 + 1 + 1 + 1) hv hb (by omega) (by omega)

def tr_l92FilmS : Tr :=
  (.evs [.app (.val (.agg #[])) 4 (.cells [])]
  (.evs [.call 0 [(.int .i64 4), (.var 0), (.var 1)] none 3]
  (.lp 0 [(.var 2), (.int .i64 0), (.var 5), (.var 6), (.val (.agg #[]))] [.sl, .int .i64, .sl, .int .i64, .row .i64 4]
  (.ite (.cmp .lss (.var 8) (.var 4))
   (.evs [.call 1 [(.var 9), (.var 10)] none 5,
      .call 0 [(.int .i64 4), (.var 15), (.var 16)] none 3,
      .app (.var 11) 4 (.cells [(.var 12), (.var 13), (.var 14), (.var 17)])]
    (.next 0 [(.var 20), (.ar .add .i64 (.var 8) (.int .i64 1)), (.var 18), (.var 19), (.var 21)]))
   (.evs [.call 0 [(.int .i64 24), (.var 9), (.var 10)] none 3]
    (.ite (.cmp .eql (.var 12) (.int .i64 0))
    (.evs [.app (.var 11) 4 (.cells [(.int .i64 1), (.int .i64 0), (.int .i64 1), (.int .i64 4)])]
     (.ret [(.var 15), (.var 13), (.var 14), (.var 16)]))
    (.ret [(.var 7), (.var 13), (.var 14), (.var 11)])))))))
def Ss_l92FilmS (cb : CodeB) : List Spec := [(F_pickC cb).spec, (SP_l92IndexS cb)]
def SP_l92FilmS (cb : CodeB) : Spec := filmSpecS cb
theorem more_oldS {arr : Array Value} {j k i : Nat} {vs : List Value} (hs : arr.size = j * 4) (hk : k < j) (hi : i < 4) : rq (.agg (arr.toList ++ vs).toArray) k i = rq (.agg arr) k i := by
  unfold rq
  have hlt : k * 4 + i < arr.size := by omega
  show toI ((arr.toList ++ vs).toArray.getD _ undef) = toI (arr.getD _ undef)
  simp [Array.getD_eq_getD_getElem?, List.getElem?_append_left (show k * 4 + i < arr.toList.length by simpa using hlt)]
theorem more_newS {arr : Array Value} {j i : Nat} {vs : List Value} (hs : arr.size = j * 4) : rq (.agg (arr.toList ++ vs).toArray) j i = toI (vs.getD i undef) := by
  unfold rq
  show toI ((arr.toList ++ vs).toArray.getD _ undef) = _
  simp [Array.getD_eq_getD_getElem?, List.getD_eq_getElem?_getD, List.getElem?_append_right (show arr.toList.length ≤ j * 4 + i by simp; omega), hs]
theorem small_more {arr : Array Value} {j : Nat} {v : Q} {x : Value} (hs : arr.size = j * 4) (h : smallRow (.agg arr) j) (hv : validQ v = true → small v) : smallRow (.agg (arr.toList ++ [.int .i64 v.1, .int .i64 v.2.1, .int .i64 v.2.2, x]).toArray) (j + 1) := by
  intro k hk
  by_cases hkj : k < j
  · have e : layI (.agg (arr.toList ++ [.int .i64 v.1, .int .i64 v.2.1, .int .i64 v.2.2, x]).toArray) k = layI (.agg arr) k := by
      unfold layI
      rw [more_oldS hs hkj (by omega), more_oldS hs hkj (by omega), more_oldS hs hkj (by omega)]
    rw [e]
    exact h k hkj
  · obtain rfl : k = j := by omega
    have e : layI (.agg (arr.toList ++ [.int .i64 v.1, .int .i64 v.2.1, .int .i64 v.2.2, x]).toArray) k = v := by
      unfold layI
      rw [more_newS hs, more_newS hs, more_newS hs]
      rfl
    rw [e]
    exact hv
theorem row_snocS {c : Value} {vs : List Value} (h : HasTy (.row .i64 4) c) (hl : vs.length = 4) (hv : ∀ v ∈ vs, ∃ z, v = .int .i64 z ∧ IntKind.i64.wrap z = z) : HasTy (.row .i64 4) (.agg (c.cells ++ vs.toArray)) := by
  obtain ⟨arr, rfl, h1, h2⟩ := h
  refine ⟨_, rfl, ?_, fun x hx => ?_⟩
  · simp only [Value.cells, Array.size_append, List.size_toArray, hl]; omega
  · simp only [Value.cells, Array.mem_append, List.mem_toArray] at hx
    exact hx.elim (h2 x) (hv x)
def filmInv (cb : CodeB) (nn : Int) (vs : List Value) : Prop := ∃ (j : Nat) (a : Option Addr) (cap : Nat) (b' : Value) (z' : Int) (arr : Array Value), (j : Int) ≤ nn ∧ vs = [.slice a j cap, .int .i64 j, b', .int .i64 z', .agg arr] ∧ arr.size = j * 4 ∧ goodSl cb b' ∧ 0 ≤ z' ∧ z' ≤ 1000 + 100 * j + 1 ∧ smallRow (.agg arr) j
theorem filmInv_next {cb : CodeB} {nn : Int} {j : Nat} {a3 : Option Addr} {cap3 : Nat} {b1 : Value} {q1 qt : Int} {arr : Array Value} {v : Q} (h1 : ((j + 1 : Nat) : Int) ≤ nn) (hs : arr.size = j * 4) (hb1 : goodSl cb b1) (h2 : 0 ≤ q1 + 1) (h3 : q1 + 1 ≤ 1000 + 100 * ((j + 1 : Nat) : Int) + 1) (hsm : smallRow (.agg arr) j) (hv : validQ v = true → small v) (hw : IntKind.i64.wrap ((j : Int) + 1) = ((j + 1 : Nat) : Int)) :
    filmInv cb nn [.slice a3 (j + 1) cap3, Value.int .i64 (IntKind.i64.wrap ((j : Int) + 1)), b1, Value.int .i64 (q1 + 1), .agg (arr.toList ++ [Value.int .i64 v.1, Value.int .i64 v.2.1, Value.int .i64 v.2.2, Value.int .i64 qt]).toArray] := by
  rw [hw]
  have e : (arr.toList ++ [Value.int .i64 v.1, Value.int .i64 v.2.1, Value.int .i64 v.2.2, Value.int .i64 qt]).toArray.size = (j + 1) * 4 := by simp [hs]; omega
  exact ⟨j + 1, a3, cap3, b1, q1 + 1, _, h1, rfl, e, hb1, h2, h3, small_more hs hsm hv⟩
set_option maxHeartbeats 1000000 in
theorem sat_l92FilmS (P : Program) (cb : CodeB) (hk : CodeOk cb) (ins : List Value) (K : List Value → Prop) (ht : TypedL [.sl, .int .i64] ins) (h : SP_l92FilmS cb ins K) : sat P (Ss_l92FilmS cb) tr_l92FilmS ins [] K := by
  obtain ⟨b, z, rfl, hb, h0, hz, hK⟩ := h
  refine evs_step (app_empty (by omega) fun a2 cap2 => evs_nil (evs_step (call_step rfl (pick_useS hk (m := 4) (by omega) (by omega) hb h0 (by omega) fun nn n0 n1 => evs_nil ?_))))
  refine ⟨filmInv cb nn, fun vs => (nn - toI (vs.getD 1 undef)).toNat, ?_, ?_⟩
  · exact ⟨0, a2, cap2, b, z + 1, #[], by omega, rfl, rfl, hb, by omega, by omega, fun k hk => by omega⟩
  · rintro vs hty ⟨j, a, cap, b', z', arr, hj, rfl, hs, hb', z0, z1, hsm⟩
    have hrow : HasTy (.row .i64 4) (.agg arr) := hty.2 4 _ rfl
    refine ⟨fun h => ?_, fun h => ?_⟩
    · have hlt : (j : Int) < nn := by
        have : decide ((j : Int) < nn) = true := Value.bool.inj h
        simpa using this
      have hj3 : j < 3 := by omega
      refine evs_step (call_step (sp := SP_l92IndexS cb) rfl ⟨b', z', rfl, hb', z0, by omega, fun v b1 q1 hv hb1 p0 p1 => ?_⟩)
      refine call_step rfl (pick_useS hk (m := 4) (by omega) (by omega) hb1 (by omega) (by omega) fun qt _ _ => ?_)
      refine app_step (xs := arr.toList) (ys := [.int .i64 v.1, .int .i64 v.2.1, .int .i64 v.2.2, .int .i64 qt]) (by simp [ev]) rfl (by simp [hs]; omega) fun a3 len3 cap3 _ hl => ?_
      have hl3 : len3 = j + 1 := by
        simp [hs] at hl
        omega
      subst hl3
      have hw : IntKind.i64.wrap ((j : Int) + 1) = ((j + 1 : Nat) : Int) := by rw [wrap_in (by omega)]; omega
      have f1 : 0 ≤ q1 + 1 ∧ q1 + 1 ≤ 1000 + 100 * ((j + 1 : Nat) : Int) + 1 ∧ ((j + 1 : Nat) : Int) ≤ nn := by
        clear hv hsm hrow hty hK h
        omega
      refine evs_nil ⟨filmInv_next f1.2.2 hs hb1 f1.1 f1.2.1 hsm hv hw, ?_⟩
      · show (nn - toI (.int .i64 (IntKind.i64.wrap ((j : Int) + 1)))).toNat < (nn - toI (.int .i64 (j : Int))).toNat
        rw [hw]
        simp only [toI_int]
        omega
    · have hge : (j : Int) = nn := by
        have : decide ((j : Int) < nn) = false := Value.bool.inj h
        have : ¬ (j : Int) < nn := by simpa using this
        omega
      refine evs_step (call_step rfl (pick_useS hk (m := 24) (by omega) (by omega) hb' z0 (by omega) fun x x0 x1 => evs_nil ?_))
      refine ⟨fun h2 => ?_, fun h2 => ?_⟩
      · refine app_step (xs := arr.toList) (ys := [.int .i64 1, .int .i64 0, .int .i64 1, .int .i64 4]) (by simp [ev]) rfl (by simp [hs]; omega) fun a3 len3 cap3 _ hl => ?_
        have hl3 : len3 = j + 1 := by
          simp [hs] at hl
          omega
        subst hl3
        have hr2 := row_snocS (vs := [.int .i64 1, .int .i64 0, .int .i64 1, .int .i64 4]) hrow rfl (fun v hv => by
          simp only [List.mem_cons, List.not_mem_nil, or_false] at hv
          rcases hv with rfl | rfl | rfl | rfl
          · exact ⟨1, rfl, by decide⟩
          · exact ⟨0, rfl, by decide⟩
          · exact ⟨1, rfl, by decide⟩
          · exact ⟨4, rfl, by decide⟩)
        have er : (Value.agg (arr.toList ++ [Value.int .i64 1, .int .i64 0, .int .i64 1, .int .i64 4]).toArray) = .agg ((Value.agg arr).cells ++ [Value.int .i64 1, .int .i64 0, .int .i64 1, .int .i64 4].toArray) := by simp [Value.cells]
        have sm0 : small ((1 : Int), (0 : Int), (1 : Int)) := by unfold small; decide
        have sm := small_more (v := ((1 : Int), (0 : Int), (1 : Int))) (x := .int .i64 4) hs hsm (fun _ => sm0)
        dsimp only at sm
        refine hK a3 (j + 1) cap3 (.agg (arr.toList ++ [Value.int .i64 1, .int .i64 0, .int .i64 1, .int .i64 4]).toArray) b' (z' + 1) (by omega) (by rw [er]; exact hr2) ?_ sm hb' (by omega) (by omega)
        simp [Value.cells, hs]; omega
      · exact hK a j cap _ b' (z' + 1) (by omega) hrow hs hsm hb' (by omega) (by omega)

def tr_l92BetweenS : Tr :=
  (.evs [.call 0 [(.var 0)] none 2]
  (.evs [.call 1 [(.var 1), (.var 2)] none 4]
  (.evs [.call 2 [(.var 4), (.var 5)] none 5]
  (.evs [.call 2 [(.var 10), (.var 11)] none 5]
  (.ret [(.var 3), (.var 7), (.var 8), (.var 9), (.var 12), (.var 13), (.var 14), (.var 6)])))))
def Ss_l92BetweenS (cb : CodeB) : List Spec := [(F_openC cb).spec, (SP_l92FilmS cb), (SP_l92IndexS cb)]
def SP_l92BetweenS (cb : CodeB) : Spec := betwS cb
theorem sat_l92BetweenS (P : Program) (cb : CodeB) (hk : CodeOk cb) (ins : List Value) (K : List Value → Prop) (ht : TypedL [.sl] ins) (h : SP_l92BetweenS cb ins K) : sat P (Ss_l92BetweenS cb) tr_l92BetweenS ins [] K := by
  obtain ⟨⟨b, rfl, hv⟩, hK⟩ := h
  refine ⟨hv, ?_⟩
  refine ⟨openV b, 0, rfl, openV_good hv, by omega, by omega, fun a n cap c b' z' h1 h2 h3 h4 hb z0 z1 => ?_⟩
  refine evs_nil (evs_step (call_step (sp := SP_l92IndexS cb) rfl ⟨b', z', rfl, hb, z0, by omega, fun v b1 q1 hv1 hb1 p0 p1 => ?_⟩))
  refine evs_nil (evs_step (call_step (sp := SP_l92IndexS cb) rfl ⟨b1, q1, rfl, hb1, by omega, by omega, fun w b2 q2 hv2 hb2 q0 q1 => ?_⟩))
  exact evs_nil (hK a n cap c (fun i => match i with | 0 => v.1 | 1 => v.2.1 | 2 => v.2.2 | 3 => w.1 | 4 => w.2.1 | _ => w.2.2) h1 h2 h3 h4 hv1 hv2)

def tr_DrawFilmSingle : Tr :=
  (.evs [.call 0 [(.var 0)] none 8]
  (.ret [(.var 1), (.var 2), (.var 3), (.var 4), (.var 5), (.var 6), (.var 7), (.var 8)]))
def Ss_DrawFilmSingle (cb : CodeB) : List Spec := [(SP_l92BetweenS cb)]
def SP_DrawFilmSingle (cb : CodeB) : Spec := betwS cb
theorem sat_DrawFilmSingle (P : Program) (cb : CodeB) (hk : CodeOk cb) (ins : List Value) (K : List Value → Prop) (ht : TypedL [.sl] ins) (h : SP_DrawFilmSingle cb ins K) : sat P (Ss_DrawFilmSingle cb) tr_DrawFilmSingle ins [] K := by
  obtain ⟨hv, hK⟩ := h
  obtain ⟨b, rfl, hv⟩ := hv
  exact ⟨⟨b, rfl, hv⟩, fun a n cap c g h1 h2 h3 h4 h5 h6 => evs_nil (hK a n cap c g h1 h2 h3 h4 h5 h6)⟩

def tr_iFracSingle : Tr :=
  (.evs [.call 0 [(.var 0), (.var 1), (.var 2)] none 2]
  (.evs [.prim (.cc .f64 .f32) [(.var 3)]]
  (.ret [(.var 5), (.var 4)])))
def Ss_iFracSingle : List Spec := [SP_iFracWide]
def SP_iFracSingle : Spec := fSingleSpec
theorem sat_iFracSingle (P : Program) (ins : List Value) (K : List Value → Prop) (ht : TypedL [.int .i64, .int .i64, .int .i64] ins) (h : SP_iFracSingle ins K) : sat P Ss_iFracSingle tr_iFracSingle ins [] K := by
  obtain ⟨a, b, c, rfl, _⟩ := ints3 ht
  obtain ⟨hv, hc, hK⟩ := h
  refine evs_step (call_step (sp := fWideSpec) rfl (fw_use (v := (a, b, c)) rfl hv (evs_nil (evs_step (cc_step (x := idxF (a, b, c)) rfl hc (evs_nil ?_))))))
  exact hK

def tr_sFracSingle : Tr :=
  (.evs [.call 0 [(.var 0), (.var 1), (.var 2)] none 2]
  (.ite (.not (.var 4))
  (.ret [(.val (.complex .f32 0 0)), (.bool false)])
  (.evs [.prim (.cc .f64 .f32) [(.var 3)]]
   (.ret [(.var 5), (.bool true)]))))
def Ss_sFracSingle : List Spec := [SP_sFracWide]
def SP_sFracSingle : Spec := fSingleSpec
theorem sat_sFracSingle (P : Program) (ins : List Value) (K : List Value → Prop) (ht : TypedL [.int .i64, .int .i64, .int .i64] ins) (h : SP_sFracSingle ins K) : sat P Ss_sFracSingle tr_sFracSingle ins [] K := by
  obtain ⟨a, b, c, rfl, _⟩ := ints3 ht
  obtain ⟨hv, hc, hK⟩ := h
  refine evs_step (call_step (sp := fWideSpec) rfl (fw_use (v := (a, b, c)) rfl hv (evs_nil (sat_ite0 rfl (evs_step (cc_step (x := idxF (a, b, c)) rfl hc (evs_nil ?_)))))))
  exact hK

def tr_iSingleTimes : Tr :=
  (.evs [.prim (.cc .f32 .f64) [(.var 0)],
    .prim (.cc .f32 .f64) [(.var 1)],
    .call 0 [(.var 2), (.var 3)] none 1,
    .prim (.cc .f64 .f32) [(.var 4)]]
  (.ret [(.var 5)]))
def Ss_iSingleTimes : List Spec := [SP_iWideTimes]
def SP_iSingleTimes : Spec := sTimesSpec
theorem sat_iSingleTimes (P : Program) (ins : List Value) (K : List Value → Prop) (ht : TypedL [.cpx .f32, .cpx .f32] ins) (h : SP_iSingleTimes ins K) : sat P Ss_iSingleTimes tr_iSingleTimes ins [] K := by
  obtain ⟨x, y, rfl, h1, h2, h3, h4, hK⟩ := h
  exact evs_step (cc_step (x := x) rfl h1 (cc_step (x := y) rfl h2 (call_step (sp := wTimesSpec) rfl (wm_use (x := upC x) (y := upC y) h3 (cc_step (x := wMul (upC x) (upC y)) rfl h4 (evs_nil hK))))))

def tr_sSingleTimes : Tr :=
  (.evs [.prim (.cc .f32 .f64) [(.var 0)],
    .prim (.cc .f32 .f64) [(.var 1)],
    .prim (.ca .mul .f64) [(.var 2), (.var 3)],
    .prim (.cc .f64 .f32) [(.var 4)]]
  (.ret [(.var 5)]))
def Fs_sSingleTimes : List Fun1 := []
def SP_sSingleTimes : Spec := sTimesSpec
theorem sat_sSingleTimes (P : Program) (ins : List Value) (K : List Value → Prop) (ht : TypedL [.cpx .f32, .cpx .f32] ins) (h : SP_sSingleTimes ins K) : sat P (specsOf Fs_sSingleTimes) tr_sSingleTimes ins [] K := by
  obtain ⟨x, y, rfl, h1, h2, h3, h4, hK⟩ := h
  exact evs_step (cc_step (x := x) rfl h1 (cc_step (x := y) rfl h2 (cm_step (x := upC x) (y := upC y) rfl rfl h3 (cc_step (x := wMul (upC x) (upC y)) rfl h4 (evs_nil hK)))))

def tr_iSingleOver : Tr :=
  (.evs [.prim (.ca .quo .f32) [(.var 0), (.var 1)]]
  (.ret [(.var 2)]))
def Fs_iSingleOver : List Fun1 := []
def SP_iSingleOver : Spec := sOverSpec
theorem sat_iSingleOver (P : Program) (ins : List Value) (K : List Value → Prop) (ht : TypedL [.cpx .f32, .cpx .f32] ins) (h : SP_iSingleOver ins K) : sat P (specsOf Fs_iSingleOver) tr_iSingleOver ins [] K := by
  obtain ⟨x, y, rfl, hK⟩ := h
  exact evs_step (fun v hv => evs_nil (hK v ⟨P, hv⟩))

def tr_sSingleOver : Tr :=
  (.evs [.prim (.ca .quo .f32) [(.var 0), (.var 1)]]
  (.ret [(.var 2)]))
def Fs_sSingleOver : List Fun1 := []
def SP_sSingleOver : Spec := sOverSpec
theorem sat_sSingleOver (P : Program) (ins : List Value) (K : List Value → Prop) (ht : TypedL [.cpx .f32, .cpx .f32] ins) (h : SP_sSingleOver ins K) : sat P (specsOf Fs_sSingleOver) tr_sSingleOver ins [] K := by
  obtain ⟨x, y, rfl, hK⟩ := h
  exact evs_step (fun v hv => evs_nil (hK v ⟨P, hv⟩))

def tr_l8Single : Tr :=
  (.evs [.call 0 [(.var 0), (.var 1), (.var 2)] none 2]
  (.ite (.cmp .eql (.var 3) (.int .i64 1))
  (.ite (.cmp .eql (.var 3) (.int .i64 1))
   (.evs [.call 1 [(.val (.complex .f32 0 1065353216)), (.var 5)] none 1,
      .call 2 [(.var 8), (.var 6)] none 1]
    (.evs [.call 1 [(.val (.complex .f32 0 1065353216)), (.var 6)] none 1,
      .call 1 [(.var 10), (.var 4)] none 1]
    (.ite (.cmp .geq (.var 3) (.int .i64 2))
    (.ret [(.fneg (.var 9)), (.fneg (.var 11))])
    (.ret [(.var 9), (.var 11)]))))
   (.ite (.cmp .geq (.var 3) (.int .i64 2))
    (.ret [(.fneg (.var 4)), (.fneg (.var 5))])
    (.ret [(.var 4), (.var 5)])))
  (.ite (.cmp .eql (.var 3) (.int .i64 3))
   (.evs [.call 1 [(.val (.complex .f32 0 1065353216)), (.var 5)] none 1,
      .call 2 [(.var 8), (.var 6)] none 1]
    (.evs [.call 1 [(.val (.complex .f32 0 1065353216)), (.var 6)] none 1,
      .call 1 [(.var 10), (.var 4)] none 1]
    (.ite (.cmp .geq (.var 3) (.int .i64 2))
    (.ret [(.fneg (.var 9)), (.fneg (.var 11))])
    (.ret [(.var 9), (.var 11)]))))
   (.ite (.cmp .geq (.var 3) (.int .i64 2))
    (.ret [(.fneg (.var 4)), (.fneg (.var 5))])
    (.ret [(.var 4), (.var 5)])))))
def Ss_l8Single : List Spec := [SP_sFracSingle, SP_sSingleTimes, SP_sSingleOver]
def SP_l8Single : Spec := l8sSpec
theorem sat_l8Single (P : Program) (ins : List Value) (K : List Value → Prop) (ht : TypedL [.int .i64, .int .i64, .int .i64, .int .i64, .cpx .f32, .cpx .f32] ins) (h : SP_l8Single ins K) : sat P Ss_l8Single tr_l8Single ins [] K := by
  obtain ⟨a, r, rfl, _, t1⟩ := int_cons ht
  obtain ⟨b, r, rfl, _, t2⟩ := int_cons t1
  obtain ⟨c, r, rfl, _, t3⟩ := int_cons t2
  obtain ⟨qt, r, rfl, _, t4⟩ := int_cons t3
  obtain ⟨u, w, rfl, _, _⟩ := two_of t4
  obtain ⟨p, q, h1, h2, hv, hq, hc, ho, hK⟩ := h
  have h1 : u = csv p := h1
  have h2 : w = csv q := h2
  subst h1 h2
  have hv : validQ (a, b, c) = true := hv
  have hq : 0 ≤ qt ∧ qt ≤ 3 := hq
  have hK : K [csv (sStep (dnC (idxF (a, b, c))) qt p q).1, csv (sStep (dnC (idxF (a, b, c))) qt p q).2] := hK
  have hc : cConvBits .f64 (idxF (a, b, c)).1 (idxF (a, b, c)).2 .f32 = some (dnC (idxF (a, b, c))) := hc
  have ho : OddS (dnC (idxF (a, b, c))) p q := ho
  refine evs_step (call_step (sp := fSingleSpec) rfl (fs_use (v := (a, b, c)) rfl hv hc (evs_nil ?_)))
  generalize dnC (idxF (a, b, c)) = n at *
  obtain ⟨o1, o2, o3, o4⟩ := oddS_steps (K1 := K) ho
  have odd : ∀ {t : Tr}, sat P Ss_l8Single t ([.int .i64 a, .int .i64 b, .int .i64 c, .int .i64 qt, csv p, csv q] ++ [csv n, .bool true] ++ [csv (sMul iS q)] ++ [csv (sQuo (sMul iS q) n)] ++ [csv (sMul iS n)] ++ [csv (sMul (sMul iS n) p)]) [] K →
      sat P Ss_l8Single (.evs [.call 1 [(.val (.complex .f32 0 1065353216)), (.var 5)] none 1, .call 2 [(.var 8), (.var 6)] none 1] (.evs [.call 1 [(.val (.complex .f32 0 1065353216)), (.var 6)] none 1, .call 1 [(.var 10), (.var 4)] none 1] t)) ([.int .i64 a, .int .i64 b, .int .i64 c, .int .i64 qt, csv p, csv q] ++ [csv n, .bool true]) [] K := fun h =>
    evs_step (call_step (sp := sTimesSpec) rfl (o1 (call_step (sp := sOverSpec) rfl (o2 (evs_nil (evs_step (call_step (sp := sTimesSpec) rfl (o3 (call_step (sp := sTimesSpec) rfl (o4 (evs_nil h)))))))))))
  rcases (by omega : qt = 0 ∨ qt = 1 ∨ qt = 2 ∨ qt = 3) with rfl | rfl | rfl | rfl
  · exact sat_ite0 rfl (sat_ite0 rfl (sat_ite0 rfl hK))
  · refine sat_ite1 rfl (sat_ite1 rfl (odd ?_))
    exact sat_ite0 rfl hK
  · exact sat_ite0 rfl (sat_ite0 rfl (sat_ite1 rfl hK))
  · refine sat_ite0 rfl (sat_ite1 rfl (odd ?_))
    exact sat_ite1 rfl hK

def tr_iFilmSingle : Tr :=
  (.evs [.call 0 [(.var 0), (.var 7)] none 1,
    .call 1 [(.var 1), (.var 2), (.var 3)] (some (.not (.not (.var 8)))) 1,
    .call 1 [(.var 4), (.var 5), (.var 6)] (some (.not (.ite (.not (.var 8)) (.bool true) (.not (.var 9))))) 1]
  (.ite (.ite (.ite (.not (.var 8)) (.bool true) (.not (.var 9))) (.bool true) (.not (.var 10)))
  (.ret [(.val (.complex .f32 0 0)), (.bool false)])
  (.evs [.call 2 [(.var 4), (.var 5), (.var 6)] none 2]
   (.evs [.call 3 [(.var 0), (.var 7)] none 2]
   (.lp 0 [(.int .i64 0), (.val (.complex .f32 1065353216 0)), (.var 11)] [.int .i64, .cpx .f32, .cpx .f32]
   (.ite (.cmp .lss (.var 15) (.len (.var 13)))
    (.evs [.need [(.inb (.var 14) (.var 15) 4)]]
     (.evs [.call 2 [(.sel (.var 14) (.var 15) 4 0), (.sel (.var 14) (.var 15) 4 1), (.sel (.var 14) (.var 15) 4 2)] none 2]
     (.evs [.need [(.bool true)]]
     (.ite (.cmp .eql (.ar .rem .i64 (.sel (.var 14) (.var 15) 4 3) (.int .i64 2)) (.int .i64 1))
     (.evs [.call 4 [(.val (.complex .f32 0 1065353216)), (.var 17)] none 1,
        .call 5 [(.var 20), (.var 18)] none 1,
        .call 4 [(.val (.complex .f32 0 1065353216)), (.var 18)] none 1,
        .call 4 [(.var 22), (.var 16)] none 1]
      (.ite (.cmp .geq (.sel (.var 14) (.var 15) 4 3) (.int .i64 2))
      (.next 0 [(.ar .add .i64 (.var 15) (.int .i64 1)), (.fneg (.var 21)), (.fneg (.var 23))])
      (.next 0 [(.ar .add .i64 (.var 15) (.int .i64 1)), (.var 21), (.var 23)])))
     (.ite (.cmp .geq (.sel (.var 14) (.var 15) 4 3) (.int .i64 2))
      (.next 0 [(.ar .add .i64 (.var 15) (.int .i64 1)), (.fneg (.var 16)), (.fneg (.var 17))])
      (.next 0 [(.ar .add .i64 (.var 15) (.int .i64 1)), (.var 16), (.var 17)]))))))
    (.evs [.call 2 [(.var 1), (.var 2), (.var 3)] none 2]
     (.evs [.call 4 [(.var 18), (.var 16)] none 1]
     (.evs [.prim (.ca .sub .f32) [(.var 20), (.var 17)],
       .prim (.ca .add .f32) [(.var 20), (.var 17)],
       .call 5 [(.var 21), (.var 22)] none 1]
     (.ret [(.var 23), (.bool true)]))))))))))
def Ss_iFilmSingle : List Spec := [F_iFilmValid.spec, G_indexOk.spec, SP_iFracSingle, SP_revL, SP_iSingleTimes, SP_iSingleOver]
def SP_iFilmSingle : Spec := sFilmSpec
theorem sat_iFilmSingle (P : Program) (ins : List Value) (K : List Value → Prop) (ht : TypedL [.sl, .int .i64, .int .i64, .int .i64, .int .i64, .int .i64, .int .i64, .row .i64 4] ins) (h : SP_iFilmSingle ins K) : sat P Ss_iFilmSingle tr_iFilmSingle ins [] K := by
  obtain ⟨⟨hf, hn4, hrow, hsa, hsb⟩, h1, h0⟩ := h
  obtain ⟨a, n, cap, c, g, rfl, hc, hn, hcT⟩ := film_of ht hf
  have h1 : wideOk (.slice a n cap) c (g 0, g 1, g 2) (g 3, g 4, g 5) = true → ∀ v, SingRes (sTop c n (dnC (idxF (g 0, g 1, g 2))) (dnC (idxF (g 3, g 4, g 5)))) (sBot c n (dnC (idxF (g 0, g 1, g 2))) (dnC (idxF (g 3, g 4, g 5)))) v → K [v, .bool true] := h1
  have hn4 : n ≤ 4 := hn4
  have hrow : smallRow c n := hrow
  have hsa : validQ (g 0, g 1, g 2) = true → small (g 0, g 1, g 2) := hsa
  have hsb : validQ (g 3, g 4, g 5) = true → small (g 3, g 4, g 5) := hsb
  have h0 : wideOk (.slice a n cap) c (g 0, g 1, g 2) (g 3, g 4, g 5) = false → K [csv (0, 0), .bool false] := h0
  have hw : wideOk (.slice a n cap) c (g 0, g 1, g 2) (g 3, g 4, g 5) = ((allB (layP c) 0 n && decide ((n : Int) ≤ 8)) && idxQ (g 0, g 1, g 2) && idxQ (g 3, g 4, g 5)) := rfl
  have fit : Fit4 (.slice a n cap) c := ⟨a, n, cap, rfl, hc, hn⟩
  refine evs_step (call_step (sp := F_iFilmValid.spec) rfl ⟨fit, ?_⟩)
  have eV : F_iFilmValid.out [.slice a n cap, c] = [.bool (allB (layP c) 0 n && decide ((n : Int) ≤ 8))] := rfl
  show evSat P _ _ ([Value.slice a n cap, .int .i64 (g 0), .int .i64 (g 1), .int .i64 (g 2), .int .i64 (g 3), .int .i64 (g 4), .int .i64 (g 5), c] ++ F_iFilmValid.out [.slice a n cap, c]) _
  rw [eV]
  cases hV : (allB (layP c) 0 n && decide ((n : Int) ≤ 8)) with
  | false =>
    refine ⟨fun h => (by cases h), fun _ => ⟨fun h => (by cases h), fun _ => evs_nil (sat_ite1 rfl ?_)⟩⟩
    exact h0 (by rw [hw, hV]; rfl)
  | true =>
    refine ⟨fun _ => ⟨trivial, ?_⟩, fun h => (by cases h)⟩
    have eA : G_indexOk.out [.int .i64 (g 0), .int .i64 (g 1), .int .i64 (g 2)] = [.bool (idxQ (g 0, g 1, g 2))] := rfl
    show evSat P _ _ ([Value.slice a n cap, .int .i64 (g 0), .int .i64 (g 1), .int .i64 (g 2), .int .i64 (g 3), .int .i64 (g 4), .int .i64 (g 5), c, .bool true] ++ G_indexOk.out [.int .i64 (g 0), .int .i64 (g 1), .int .i64 (g 2)]) _
    rw [eA]
    cases hA : idxQ (g 0, g 1, g 2) with
    | false =>
      refine ⟨fun h => (by cases h), fun _ => evs_nil (sat_ite1 rfl ?_)⟩
      exact h0 (by rw [hw, hV, hA]; rfl)
    | true =>
      refine ⟨fun _ => ⟨trivial, ?_⟩, fun h => (by cases h)⟩
      have eB : G_indexOk.out [.int .i64 (g 3), .int .i64 (g 4), .int .i64 (g 5)] = [.bool (idxQ (g 3, g 4, g 5))] := rfl
      show evSat P _ _ ([Value.slice a n cap, .int .i64 (g 0), .int .i64 (g 1), .int .i64 (g 2), .int .i64 (g 3), .int .i64 (g 4), .int .i64 (g 5), c, .bool true, .bool true] ++ G_indexOk.out [.int .i64 (g 3), .int .i64 (g 4), .int .i64 (g 5)]) _
      rw [eB]
      cases hB : idxQ (g 3, g 4, g 5) with
      | false => exact evs_nil (sat_ite1 rfl (h0 (by rw [hw, hV, hA, hB]; rfl)))
      | true =>
        have hok : wideOk (.slice a n cap) c (g 0, g 1, g 2) (g 3, g 4, g 5) = true := by rw [hw, hV, hA, hB]; rfl
        have hK := h1 hok
        obtain ⟨hl, iA, iB, cA, cB, xA, xB⟩ := single_facts (n := n) rfl hn4 hrow hsa hsb hok
        refine evs_nil (sat_ite0 rfl (evs_step (call_step (sp := fSingleSpec) rfl (fs_use (v := (g 3, g 4, g 5)) rfl (idx_val iB).1 cB (evs_nil ?_)))))
        refine evs_step (call_step (sp := revSpec) rfl ⟨fit, by show n ≤ 1048576; omega, fun a2 cap2 => evs_nil ?_⟩)
        show sat P _ _ [Value.slice a n cap, .int .i64 (g 0), .int .i64 (g 1), .int .i64 (g 2), .int .i64 (g 3), .int .i64 (g 4), .int .i64 (g 5), c, .bool true, .bool true, .bool true, csv (dnC (idxF (g 3, g 4, g 5))), .bool true, .slice a2 n cap2, revR c n] _ K
        refine ⟨fun vs => ∃ k : Nat, k ≤ n ∧ vs = [.int .i64 k, csv (sRun (sN c n) (wT c n) (dnC (idxF (g 3, g 4, g 5))) k).1, csv (sRun (sN c n) (wT c n) (dnC (idxF (g 3, g 4, g 5))) k).2], fun vs => n - (toI (vs.getD 0 undef)).toNat, ⟨0, Nat.zero_le _, rfl⟩, ?_⟩
        rintro vs hty ⟨k, hk, rfl⟩
        refine sat_ite (b := decide ((k : Int) < (n : Int))) rfl (fun h => ?_) (fun h => ?_)
        · have hlt : k < n := by simpa using h
          have hin := inb_ok (revR_size c n) hlt
          have e0 : rq (revR c n) k 0 = rq c (n - 1 - k) 0 := revR_rq c hlt (by omega)
          have e1 : rq (revR c n) k 1 = rq c (n - 1 - k) 1 := revR_rq c hlt (by omega)
          have e2 : rq (revR c n) k 2 = rq c (n - 1 - k) 2 := revR_rq c hlt (by omega)
          have e3 : rq (revR c n) k 3 = wT c n k := revR_rq c hlt (by omega)
          have eI : (rq (revR c n) k 0, rq (revR c n) k 1, rq (revR c n) k 2) = layI c (n - 1 - k) := by rw [e0, e1, e2]; rfl
          obtain ⟨_, t0, t3, hv, hcv⟩ := hl k hlt
          obtain ⟨o1, o2, o3, o4⟩ := oddS_steps (K1 := K) (sRun_odd (n := sN c n) (qt := wT c n) (b := dnC (idxF (g 3, g 4, g 5))) hn4 (fun k hk => (hl k hk).1) xB.1.inn.sw k hlt)
          have hst : sRun (sN c n) (wT c n) (dnC (idxF (g 3, g 4, g 5))) (k + 1) = sStep (sN c n k) (wT c n k) (sRun (sN c n) (wT c n) (dnC (idxF (g 3, g 4, g 5))) k).1 (sRun (sN c n) (wT c n) (dnC (idxF (g 3, g 4, g 5))) k).2 := rfl
          have hnx : ∀ u w : CF, sStep (sN c n k) (wT c n k) (sRun (sN c n) (wT c n) (dnC (idxF (g 3, g 4, g 5))) k).1 (sRun (sN c n) (wT c n) (dnC (idxF (g 3, g 4, g 5))) k).2 = (u, w) → (∃ j : Nat, j ≤ n ∧ [Value.int .i64 (IntKind.i64.wrap ((k : Int) + 1)), csv u, csv w] = [.int .i64 j, csv (sRun (sN c n) (wT c n) (dnC (idxF (g 3, g 4, g 5))) j).1, csv (sRun (sN c n) (wT c n) (dnC (idxF (g 3, g 4, g 5))) j).2]) ∧
              n - (toI (.int .i64 (IntKind.i64.wrap ((k : Int) + 1)))).toNat < n - (toI (.int .i64 (k : Int))).toNat := fun u w e => by
            rw [wrap_next hlt hn]
            refine ⟨⟨k + 1, by omega, by rw [hst, e]⟩, ?_⟩
            simp only [toI_int, Int.toNat_natCast]
            omega
          generalize hpq : sRun (sN c n) (wT c n) (dnC (idxF (g 3, g 4, g 5))) k = pq at *
          refine evs_step ⟨fun e he => by rw [List.mem_singleton.1 he]; exact hin, evs_nil (evs_step (call_step (sp := fSingleSpec) rfl (fs_use (v := layI c (n - 1 - k)) (by exact eI) hv hcv (evs_nil ?_))))⟩
          show sat P _ _ [Value.slice a n cap, .int .i64 (g 0), .int .i64 (g 1), .int .i64 (g 2), .int .i64 (g 3), .int .i64 (g 4), .int .i64 (g 5), c, .bool true, .bool true, .bool true, csv (dnC (idxF (g 3, g 4, g 5))), .bool true, .slice a2 n cap2, revR c n, .int .i64 k, csv pq.1, csv pq.2, csv (dnC (idxF (layI c (n - 1 - k)))), .bool true] _ K
          have eW : dnC (idxF (layI c (n - 1 - k))) = sN c n k := rfl
          rw [eW]
          refine evs_step ⟨fun e he => by rw [List.mem_singleton.1 he]; rfl, evs_nil ?_⟩
          generalize hW : sN c n k = W at *
          generalize hT : wT c n k = T at *
          refine sat_ite (b := (T.tmod 2 == 1)) (by show Value.bool ((rq (revR c n) k 3).tmod 2 == 1) = _; rw [e3]) (fun h => ?_) (fun h => ?_)
          · refine evs_step (call_step (sp := sTimesSpec) rfl (o1 (call_step (sp := sOverSpec) rfl (o2 (call_step (sp := sTimesSpec) rfl (o3 (call_step (sp := sTimesSpec) rfl (o4 (evs_nil ?_)))))))))
            refine sat_ite (b := decide (T ≥ 2)) (by show Value.bool (decide (rq (revR c n) k 3 ≥ 2)) = _; rw [e3]) (fun h' => ?_) (fun h' => ?_)
            · obtain rfl : T = 3 := by
                rcases (by omega : T = 0 ∨ T = 1 ∨ T = 2 ∨ T = 3) with rfl | rfl | rfl | rfl <;> first | rfl | (exact absurd h (by decide)) | (exact absurd h' (by decide))
              exact hnx _ _ rfl
            · obtain rfl : T = 1 := by
                rcases (by omega : T = 0 ∨ T = 1 ∨ T = 2 ∨ T = 3) with rfl | rfl | rfl | rfl <;> first | rfl | (exact absurd h (by decide)) | (exact absurd h' (by decide))
              exact hnx _ _ rfl
          · refine sat_ite (b := decide (T ≥ 2)) (by show Value.bool (decide (rq (revR c n) k 3 ≥ 2)) = _; rw [e3]) (fun h' => ?_) (fun h' => ?_)
            · obtain rfl : T = 2 := by
                rcases (by omega : T = 0 ∨ T = 1 ∨ T = 2 ∨ T = 3) with rfl | rfl | rfl | rfl <;> first | rfl | (exact absurd h (by decide)) | (exact absurd h' (by decide))
              exact hnx _ _ rfl
            · obtain rfl : T = 0 := by
                rcases (by omega : T = 0 ∨ T = 1 ∨ T = 2 ∨ T = 3) with rfl | rfl | rfl | rfl <;> first | rfl | (exact absurd h (by decide)) | (exact absurd h' (by decide))
              exact hnx _ _ rfl
        · have hge : ¬ k < n := by simpa using h
          obtain rfl : k = n := by omega
          obtain ⟨e1, e2⟩ := sRun_bd (n := sN c k) (qt := wT c k) (b := dnC (idxF (g 3, g 4, g 5))) hn4 (fun j hj => (hl j hj).1) xB.1.inn.sw k (Nat.le_refl _)
          obtain ⟨q1, q2, q3, q4, q5⟩ := sMul_ok xA.1.inn e1 (by omega) (by omega) (by omega) (by omega)
          obtain ⟨m2, m3, _⟩ := s_end q5 e2
          refine evs_step (call_step (sp := fSingleSpec) rfl (fs_use (v := (g 0, g 1, g 2)) rfl (idx_val iA).1 cA (evs_nil ?_)))
          refine evs_step (call_step (sp := sTimesSpec) rfl (sm_use (x := dnC (idxF (g 0, g 1, g 2))) q1 q2 q3 q4 (evs_nil ?_)))
          refine evs_step (ca32_step (.inr rfl) rfl rfl m2 (ca32_step (.inl rfl) rfl rfl m3 (call_step (sp := sOverSpec) rfl ⟨_, _, rfl, fun v hv => evs_nil (hK v hv)⟩)))

def tr_sFilmSingle : Tr :=
  (.evs [.call 0 [(.var 0), (.var 1), (.var 2), (.var 3), (.var 4), (.var 5), (.var 6), (.var 7)] none 1]
  (.ite (.not (.var 8))
  (.ret [(.val (.complex .f32 0 0)), (.bool false)])
  (.evs [.call 1 [(.var 4), (.var 5), (.var 6)] none 2]
   (.lp 0 [(.ar .sub .i64 (.len (.var 0)) (.int .i64 1)), (.val (.complex .f32 1065353216 0)), (.var 9)] [.int .i64, .cpx .f32, .cpx .f32]
   (.ite (.cmp .geq (.var 11) (.int .i64 0))
    (.evs [.need [(.inb (.var 7) (.var 11) 4)],
       .call 2 [(.sel (.var 7) (.var 11) 4 0), (.sel (.var 7) (.var 11) 4 1), (.sel (.var 7) (.var 11) 4 2), (.sel (.var 7) (.var 11) 4 3), (.var 12), (.var 13)] none 2]
     (.next 0 [(.ar .sub .i64 (.var 11) (.int .i64 1)), (.var 14), (.var 15)]))
    (.evs [.call 1 [(.var 1), (.var 2), (.var 3)] none 2]
     (.evs [.call 3 [(.var 14), (.var 12)] none 1]
     (.evs [.prim (.ca .sub .f32) [(.var 16), (.var 13)],
       .prim (.ca .add .f32) [(.var 16), (.var 13)],
       .call 4 [(.var 17), (.var 18)] none 1]
     (.ret [(.var 19), (.bool true)])))))))))
def Ss_sFilmSingle : List Spec := [G_l8Given.spec, SP_sFracSingle, SP_l8Single, SP_sSingleTimes, SP_sSingleOver]
def SP_sFilmSingle : Spec := sFilmSpec
theorem sat_sFilmSingle (P : Program) (ins : List Value) (K : List Value → Prop) (ht : TypedL [.sl, .int .i64, .int .i64, .int .i64, .int .i64, .int .i64, .int .i64, .row .i64 4] ins) (h : SP_sFilmSingle ins K) : sat P Ss_sFilmSingle tr_sFilmSingle ins [] K := by
  obtain ⟨⟨hf, hn4, hrow, hsa, hsb⟩, h1, h0⟩ := h
  obtain ⟨a, n, cap, c, g, rfl, hc, hn, hcT⟩ := film_of ht hf
  have h1 : wideOk (.slice a n cap) c (g 0, g 1, g 2) (g 3, g 4, g 5) = true → ∀ v, SingRes (sTop c n (dnC (idxF (g 0, g 1, g 2))) (dnC (idxF (g 3, g 4, g 5)))) (sBot c n (dnC (idxF (g 0, g 1, g 2))) (dnC (idxF (g 3, g 4, g 5)))) v → K [v, .bool true] := h1
  have hn4 : n ≤ 4 := hn4
  have hrow : smallRow c n := hrow
  have hsa : validQ (g 0, g 1, g 2) = true → small (g 0, g 1, g 2) := hsa
  have hsb : validQ (g 3, g 4, g 5) = true → small (g 3, g 4, g 5) := hsb
  have h0 : wideOk (.slice a n cap) c (g 0, g 1, g 2) (g 3, g 4, g 5) = false → K [csv (0, 0), .bool false] := h0
  have fit : Fit4 (.slice a n cap) c := ⟨a, n, cap, rfl, hc, hn⟩
  refine evs_step (call_step (sp := G_l8Given.spec) rfl ⟨fit, evs_nil ?_⟩)
  show sat P _ _ ([Value.slice a n cap, .int .i64 (g 0), .int .i64 (g 1), .int .i64 (g 2), .int .i64 (g 3), .int .i64 (g 4), .int .i64 (g 5), c] ++ [.bool (wideOk (.slice a n cap) c (g 0, g 1, g 2) (g 3, g 4, g 5))]) _ K
  cases hok : wideOk (.slice a n cap) c (g 0, g 1, g 2) (g 3, g 4, g 5) with
  | false => exact sat_ite1 rfl (h0 hok)
  | true =>
    have hK := h1 hok
    obtain ⟨hl, iA, iB, cA, cB, xA, xB⟩ := single_facts (n := n) rfl hn4 hrow hsa hsb hok
    refine sat_ite0 rfl (evs_step (call_step (sp := fSingleSpec) rfl (fs_use (v := (g 3, g 4, g 5)) rfl (idx_val iB).1 cB (evs_nil ?_))))
    show sat P _ _ [Value.slice a n cap, .int .i64 (g 0), .int .i64 (g 1), .int .i64 (g 2), .int .i64 (g 3), .int .i64 (g 4), .int .i64 (g 5), c, .bool true, csv (dnC (idxF (g 3, g 4, g 5))), .bool true] _ K
    have hw0 : IntKind.i64.wrap ((n : Int) - 1) = (n : Int) - 1 - ((0 : Nat) : Int) := by rw [wrap_in (by omega)]; omega
    refine ⟨fun vs => ∃ k : Nat, k ≤ n ∧ vs = [.int .i64 ((n : Int) - 1 - k), csv (sRun (sN c n) (wT c n) (dnC (idxF (g 3, g 4, g 5))) k).1, csv (sRun (sN c n) (wT c n) (dnC (idxF (g 3, g 4, g 5))) k).2], fun vs => (toI (vs.getD 0 undef) + 1).toNat, ⟨0, Nat.zero_le _, ?_⟩, ?_⟩
    · show [Value.int .i64 (IntKind.i64.wrap ((n : Int) - 1)), csv oneS, csv (dnC (idxF (g 3, g 4, g 5)))] = _
      rw [hw0]
      rfl
    rintro vs hty ⟨k, hk, rfl⟩
    refine sat_ite (b := decide ((n : Int) - 1 - (k : Int) ≥ 0)) rfl (fun h => ?_) (fun h => ?_)
    · have hlt : k < n := by
        have : (n : Int) - 1 - (k : Int) ≥ 0 := by simpa using h
        omega
      obtain ⟨_, t0, t3, hv, hcv⟩ := hl k hlt
      have hod := sRun_odd (n := sN c n) (qt := wT c n) (b := dnC (idxF (g 3, g 4, g 5))) hn4 (fun k hk => (hl k hk).1) xB.1.inn.sw k hlt
      have ek : (n : Int) - 1 - (k : Int) = ((n - 1 - k : Nat) : Int) := by omega
      have hin := inb_ok hc (show n - 1 - k < n by omega)
      have hst : sRun (sN c n) (wT c n) (dnC (idxF (g 3, g 4, g 5))) (k + 1) = sStep (sN c n k) (wT c n k) (sRun (sN c n) (wT c n) (dnC (idxF (g 3, g 4, g 5))) k).1 (sRun (sN c n) (wT c n) (dnC (idxF (g 3, g 4, g 5))) k).2 := rfl
      have hnx : (∃ j : Nat, j ≤ n ∧ [Value.int .i64 (IntKind.i64.wrap ((n : Int) - 1 - (k : Int) - 1)), csv (sStep (sN c n k) (wT c n k) (sRun (sN c n) (wT c n) (dnC (idxF (g 3, g 4, g 5))) k).1 (sRun (sN c n) (wT c n) (dnC (idxF (g 3, g 4, g 5))) k).2).1, csv (sStep (sN c n k) (wT c n k) (sRun (sN c n) (wT c n) (dnC (idxF (g 3, g 4, g 5))) k).1 (sRun (sN c n) (wT c n) (dnC (idxF (g 3, g 4, g 5))) k).2).2] = [.int .i64 ((n : Int) - 1 - j), csv (sRun (sN c n) (wT c n) (dnC (idxF (g 3, g 4, g 5))) j).1, csv (sRun (sN c n) (wT c n) (dnC (idxF (g 3, g 4, g 5))) j).2]) ∧
          (toI (.int .i64 (IntKind.i64.wrap ((n : Int) - 1 - (k : Int) - 1))) + 1).toNat < (toI (.int .i64 ((n : Int) - 1 - (k : Int))) + 1).toNat := by
        have hw : IntKind.i64.wrap ((n : Int) - 1 - (k : Int) - 1) = (n : Int) - 1 - ((k + 1 : Nat) : Int) := by rw [wrap_in (by omega)]; omega
        rw [hw]
        refine ⟨⟨k + 1, by omega, by rw [hst]⟩, ?_⟩
        simp only [toI_int]
        omega
      generalize hpq : sRun (sN c n) (wT c n) (dnC (idxF (g 3, g 4, g 5))) k = pq at *
      rw [ek] at hnx ⊢
      refine evs_step ⟨fun e he => by rw [List.mem_singleton.1 he]; exact hin, call_step (sp := l8sSpec) rfl ⟨pq.1, pq.2, rfl, rfl, hv, ⟨t0, t3⟩, hcv, hod, evs_nil ?_⟩⟩
      exact hnx
    · have hge : ¬ k < n := by
        have : ¬ (n : Int) - 1 - (k : Int) ≥ 0 := by simpa using h
        omega
      obtain rfl : k = n := by omega
      obtain ⟨e1, e2⟩ := sRun_bd (n := sN c k) (qt := wT c k) (b := dnC (idxF (g 3, g 4, g 5))) hn4 (fun j hj => (hl j hj).1) xB.1.inn.sw k (Nat.le_refl _)
      obtain ⟨q1, q2, q3, q4, q5⟩ := sMul_ok xA.1.inn e1 (by omega) (by omega) (by omega) (by omega)
      obtain ⟨m2, m3, _⟩ := s_end q5 e2
      refine evs_step (call_step (sp := fSingleSpec) rfl (fs_use (v := (g 0, g 1, g 2)) rfl (idx_val iA).1 cA (evs_nil ?_)))
      refine evs_step (call_step (sp := sTimesSpec) rfl (sm_use (x := dnC (idxF (g 0, g 1, g 2))) q1 q2 q3 q4 (evs_nil ?_)))
      refine evs_step (ca32_step (.inr rfl) rfl rfl m2 (ca32_step (.inl rfl) rfl rfl m3 (call_step (sp := sOverSpec) rfl ⟨_, _, rfl, fun v hv => evs_nil (hK v hv)⟩)))

def tr_singleAlike : Tr :=
  (.evs [.prim (.cc .f32 .f64) [(.var 0)],
    .prim (.cc .f32 .f64) [(.var 1)],
    .call 0 [(.var 2), (.var 3)] none 1]
  (.ret [(.var 4)]))
def Ss_singleAlike : List Spec := [SP_wideAlike]
def SP_singleAlike : Spec := fun ins K => ∃ a b c d : Nat, ins = [.complex .f32 a b, .complex .f32 c d] ∧ SameS a c ∧ SameS b d ∧ K [.bool true]
theorem sat_singleAlike (P : Program) (ins : List Value) (K : List Value → Prop) (ht : TypedL [.cpx .f32, .cpx .f32] ins) (h : SP_singleAlike ins K) : sat P Ss_singleAlike tr_singleAlike ins [] K := by
  obtain ⟨a, b, c, d, rfl, h1, h2, hK⟩ := h
  refine evs_step fun u hu u' hu' => ?_
  obtain ⟨x, y, x', y', rfl, rfl, s1, s2⟩ := cc_same h1 h2 hu hu'
  exact call_step (sp := SP_wideAlike) rfl ⟨x, y, x', y', rfl, s1, s2, evs_nil hK⟩

def tr_FnFilmSingle : Tr :=
  (.ite (.cmp .gtr (.len (.var 0)) (.int .i64 1048576))
  (.ret [(.bool true)])
  (.evs [.call 0 [(.var 0)] none 8]
   (.evs [.call 1 [(.var 1), (.var 2), (.var 3), (.var 4), (.var 5), (.var 6), (.var 7), (.var 8)] none 2]
   (.evs [.call 2 [(.var 1), (.var 2), (.var 3), (.var 4), (.var 5), (.var 6), (.var 7), (.var 8)] none 2]
   (.evs [.call 3 [(.var 9), (.var 11)] (some (.not (.not (.eqb (.var 10) (.var 12))))) 1]
   (.ite (.ite (.ite (.not (.eqb (.var 10) (.var 12))) (.bool true) (.not (.var 13))) (.bool true) (.not (.var 10)))
   (.evs [.call 3 [(.var 9), (.var 11)] (some (.eqb (.var 10) (.var 12))) 1]
    (.ret [(.ite (.eqb (.var 10) (.var 12)) (.var 14) (.bool false))]))
   (.evs [.call 4 [(.var 1), (.var 2), (.var 3), (.var 4), (.var 5), (.var 6), (.var 7), (.var 8)] none 2]
    (.evs [.call 5 [(.var 1), (.var 8)] none 1]
    (.lp 0 [(.int .i64 0), (.ite (.ite (.ite (.ite (.ite (.ite (.ite (.ite (.var 16) (.cmp .eql (.var 3) (.int .i64 0)) (.bool false)) (.cmp .eql (.var 6) (.int .i64 0)) (.bool false)) (.cmp .gtr (.var 2) (.int .i64 0)) (.bool false)) (.cmp .gtr (.var 5) (.int .i64 0)) (.bool false)) (.cmp .leq (.var 2) (.int .i64 100)) (.bool false)) (.cmp .leq (.var 5) (.int .i64 100)) (.bool false)) (.cmp .leq (.var 4) (.int .i64 100)) (.bool false)) (.cmp .leq (.var 7) (.int .i64 100)) (.bool false))] [.int .i64, .bool]
    (.ite (.cmp .lss (.var 17) (.len (.var 1)))
     (.evs [.need [(.inb (.var 8) (.var 17) 4)]]
      (.next 0 [(.ar .add .i64 (.var 17) (.int .i64 1)), (.ite (.ite (.ite (.var 18) (.cmp .gtr (.sel (.var 8) (.var 17) 4 0) (.int .i64 0)) (.bool false)) (.cmp .leq (.sel (.var 8) (.var 17) 4 0) (.int .i64 100)) (.bool false)) (.cmp .leq (.sel (.var 8) (.var 17) 4 2) (.int .i64 100)) (.bool false))]))
     (.evs [.prim (.cc .f32 .f64) [(.var 9)]]
      (.evs [.call 6 [(.cre (.var 19)), (.cre (.var 14)), (.val (.float .f64 4562254508917369340))] (some (.ite (.var 15) (.not (.not (.var 18))) (.bool false))) 1,
        .call 6 [(.cim (.var 19)), (.cim (.var 14)), (.val (.float .f64 4562254508917369340))] (some (.ite (.ite (.var 15) (.not (.not (.var 18))) (.bool false)) (.var 20) (.bool false))) 1]
      (.ret [(.ite (.var 15) (.ite (.not (.var 18)) (.bool true) (.ite (.var 20) (.var 21) (.bool false))) (.bool false))])))))))))))))
def Ss_FnFilmSingle (cb : CodeB) : List Spec := [(tySpec [.sl, .int .i64, .int .i64, .int .i64, .int .i64, .int .i64, .int .i64, .row .i64 4] (SP_DrawFilmSingle cb)), SP_iFilmSingle, SP_sFilmSingle, SP_singleAlike, SP_iFilmWide, F_realFilm.spec, SP_withinF]
theorem and_ite (a b : Bool) : (if toB (.bool a) = true then Value.bool b else .bool false) = .bool (a && b) := by cases a <;> rfl
def clearP (c : Value) (k : Nat) : Bool := decide (rq c k 0 > 0) && decide (rq c k 0 ≤ 100) && decide (rq c k 2 ≤ 100)
def clear0 (r : Bool) (g : Nat → Int) : Bool := r && (g 1 == 0) && (g 4 == 0) && decide (g 0 > 0) && decide (g 3 > 0) && decide (g 0 ≤ 100) && decide (g 3 ≤ 100) && decide (g 2 ≤ 100) && decide (g 5 ≤ 100)
theorem single_near {c : Value} {n : Nat} {a' : Option Addr} {cap : Nat} {a b : Q} {v w : Value} {g : Nat → Int} (ha : a = (g 0, g 1, g 2)) (hb : b = (g 3, g 4, g 5)) (hn4 : n ≤ 4) (hsm : smallRow c n) (sa : validQ a = true → small a) (sb : validQ b = true → small b) (hok : wideOk (.slice a' n cap) c a b = true)
    (hv : SingRes (sTop c n (dnC (idxF a)) (dnC (idxF b))) (sBot c n (dnC (idxF a)) (dnC (idxF b))) v) (hw : WideRes (wN c n) (wT c n) (idxF a) (idxF b) n w)
    (h0 : clear0 (allB (fun k => rq c k 1 == 0) 0 n) g = true) (hP : allB (clearP c) 0 n = true) : ∃ e f, v = .complex .f32 e f ∧ ∃ E F, cConvBits .f32 e f .f64 = some (E, F) ∧ ∃ x y, w = .complex .f64 x y ∧ Near3 E x ∧ Near3 F y := by
  obtain ⟨h8, hl, iA, iB, _, _⟩ := wide_facts (n := n) rfl hok
  simp only [clear0, Bool.and_eq_true, decide_eq_true_eq, beq_iff_eq] at h0
  obtain ⟨⟨⟨⟨⟨⟨⟨⟨r1, r2⟩, r3⟩, r4⟩, r5⟩, r6⟩, r7⟩, r8⟩, r9⟩ := h0
  have cA : clearI a := by
    refine ⟨(idx_val iA).1, ?_⟩
    subst ha
    exact ⟨r2, r4, r6, r8⟩
  have cB : clearI b := by
    refine ⟨(idx_val iB).1, ?_⟩
    subst hb
    exact ⟨r3, r5, r7, r9⟩
  have hx : ∀ k, k < n → clearI (layI c k) ∧ small (layI c k) := fun k hk => by
    obtain ⟨_, t0, t3, hv⟩ := hl (n - 1 - k) (by omega)
    rw [show n - 1 - (n - 1 - k) = k by omega] at hv
    have p := allB_get hP k (Nat.zero_le _) (by omega)
    simp only [clearP, Bool.and_eq_true, decide_eq_true_eq] at p
    have q := allB_get r1 k (Nat.zero_le _) (by omega)
    have q1 : rq c k 1 = 0 := by simpa using q
    exact ⟨⟨hv, q1, p.1.1, p.1.2, p.2⟩, hsm k hk hv⟩
  exact single_law (x := layI c) (qt := fun k => rq c k 3) hn4 hx cA (sa cA.1) cB (sb cB.1) hv hw
set_option maxHeartbeats 4000000 in
theorem sat_FnFilmSingle (P : Program) (cb : CodeB) (hk : CodeOk cb) (ins : List Value) (K : List Value → Prop) (_ : TypedL [.sl] ins) (hp : (lawF cb).pre ins) (hK : K [.bool true]) : sat P (Ss_FnFilmSingle cb) tr_FnFilmSingle ins [] K := by
  refine law_betwS (fun v a n cap c g hn4 hrow hc hsm hsa hsb => ?_) hp hK
  have fit : Fit4 (.slice a n cap) c := fit4_of hc (by omega)
  refine evs_step (call_step (sp := sFilmSpec) rfl (sf_use rfl rfl (a := (g 0, g 1, g 2)) (b := (g 3, g 4, g 5)) rfl rfl (n := n) rfl fit hn4 hsm hsa hsb (fun hok v1 hv1 => evs_nil ?_) (fun hok => evs_nil ?_)))
  · refine evs_step (call_step (sp := sFilmSpec) rfl (sf_use rfl rfl (a := (g 0, g 1, g 2)) (b := (g 3, g 4, g 5)) rfl rfl (n := n) rfl fit hn4 hsm hsa hsb (fun _ v2 hv2 => evs_nil ?_) (fun hno => ?_)))
    · obtain ⟨hl, iA, iB, cA, cB, xA, xB⟩ := single_facts (n := n) rfl hn4 hsm hsa hsb hok
      obtain ⟨e1, e2⟩ := sRun_bd (n := sN c n) (qt := wT c n) (b := dnC (idxF (g 3, g 4, g 5))) hn4 (fun j hj => (hl j hj).1) xB.1.inn.sw n (Nat.le_refl _)
      obtain ⟨_, _, _, _, q5⟩ := sMul_ok xA.1.inn e1 (by omega) (by omega) (by omega) (by omega)
      obtain ⟨e, f, e', f', r1, r2, s1, s2⟩ := sing_same q5 e2 hv1 hv2
      subst r1 r2
      show sat P _ _ [v, .slice a n cap, .int .i64 (g 0), .int .i64 (g 1), .int .i64 (g 2), .int .i64 (g 3), .int .i64 (g 4), .int .i64 (g 5), c, .complex .f32 e f, .bool true, .complex .f32 e' f', .bool true] [] K
      refine evs_step ⟨fun _ => ⟨e, f, e', f', rfl, s1, s2, evs_nil (sat_ite0 rfl ?_)⟩, fun h => (by cases h)⟩
      refine evs_step (call_step (sp := wFilmSpec) rfl (wf_use rfl rfl (a := (g 0, g 1, g 2)) (b := (g 3, g 4, g 5)) rfl rfl (n := n) rfl fit (fun _ w hw => evs_nil ?_) (fun hno => ?_)))
      · refine evs_step (call_step (sp := F_realFilm.spec) rfl ⟨fit, evs_nil ?_⟩)
        show sat P _ _ [v, .slice a n cap, .int .i64 (g 0), .int .i64 (g 1), .int .i64 (g 2), .int .i64 (g 3), .int .i64 (g 4), .int .i64 (g 5), c, .complex .f32 e f, .bool true, .complex .f32 e' f', .bool true, .bool true, w, .bool true, .bool (allB (fun k => rq c k 1 == 0) 0 n)] _ K
        generalize hC : clear0 (allB (fun k => rq c k 1 == 0) 0 n) g = C
        refine ⟨fun vs => ∃ k : Nat, k ≤ n ∧ vs = [.int .i64 k, .bool (C && allB (clearP c) 0 k)], fun vs => n - (toI (vs.getD 0 undef)).toNat, ⟨0, Nat.zero_le _, ?_⟩, ?_⟩
        · have e : ∀ b1 b2 b3 b4 b5 b6 b7 b8 b9 : Bool, (if toB (if toB (if toB (if toB (if toB (if toB (if toB (if toB (Value.bool b1) = true then Value.bool b2 else .bool false) = true then Value.bool b3 else .bool false) = true then Value.bool b4 else .bool false) = true then Value.bool b5 else .bool false) = true then Value.bool b6 else .bool false) = true then Value.bool b7 else .bool false) = true then Value.bool b8 else .bool false) = true then Value.bool b9 else .bool false) = .bool (b1 && b2 && b3 && b4 && b5 && b6 && b7 && b8 && b9) := fun _ _ _ _ _ _ _ _ _ => by simp only [and_ite]
          have e2 := e (allB (fun k => rq c k 1 == 0) 0 n) (g 1 == 0) (g 4 == 0) (decide (g 0 > 0)) (decide (g 3 > 0)) (decide (g 0 ≤ 100)) (decide (g 3 ≤ 100)) (decide (g 2 ≤ 100)) (decide (g 5 ≤ 100))
          have e3 : (allB (fun k => rq c k 1 == 0) 0 n && (g 1 == 0) && (g 4 == 0) && decide (g 0 > 0) && decide (g 3 > 0) && decide (g 0 ≤ 100) && decide (g 3 ≤ 100) && decide (g 2 ≤ 100) && decide (g 5 ≤ 100)) = (C && allB (clearP c) 0 0) := by rw [← hC]; exact (Bool.and_true _).symm
          rw [e3] at e2
          exact congrArg (fun q => [Value.int .i64 0, q]) e2
        rintro vs hty ⟨k, hk, rfl⟩
        refine sat_ite (b := decide ((k : Int) < (n : Int))) rfl (fun h => ?_) (fun h => ?_)
        · have hlt : k < n := by simpa using h
          have hin := inb_ok hc hlt
          refine evs_step ⟨fun e he => by rw [List.mem_singleton.1 he]; exact hin, evs_nil ?_⟩
          have e : ∀ b1 b2 b3 b4 : Bool, (if toB (if toB (if toB (Value.bool b1) = true then Value.bool b2 else .bool false) = true then Value.bool b3 else .bool false) = true then Value.bool b4 else .bool false) = .bool (b1 && b2 && b3 && b4) := fun _ _ _ _ => by simp only [and_ite]
          have e2 := e (C && allB (clearP c) 0 k) (decide (rq c k 0 > 0)) (decide (rq c k 0 ≤ 100)) (decide (rq c k 2 ≤ 100))
          have e3 : ((C && allB (clearP c) 0 k) && decide (rq c k 0 > 0) && decide (rq c k 0 ≤ 100) && decide (rq c k 2 ≤ 100)) = (C && allB (clearP c) 0 (k + 1)) := by
            rw [allB_snoc, Nat.zero_add]
            simp only [clearP, Bool.and_assoc]
          rw [e3] at e2
          refine ⟨⟨k + 1, by omega, ?_⟩, ?_⟩
          · have e4 : Value.int .i64 (IntKind.i64.wrap ((k : Int) + 1)) = .int .i64 ((k + 1 : Nat) : Int) := congrArg (Value.int .i64) (wrap_next hlt (by omega))
            have e5 : ∀ p q : Value, Value.int .i64 (IntKind.i64.wrap ((k : Int) + 1)) = p → (if toB (if toB (if toB (Value.bool (C && allB (clearP c) 0 k)) = true then Value.bool (decide (rq c k 0 > 0)) else .bool false) = true then Value.bool (decide (rq c k 0 ≤ 100)) else .bool false) = true then Value.bool (decide (rq c k 2 ≤ 100)) else .bool false) = q → [Value.int .i64 (IntKind.i64.wrap ((k : Int) + 1)), (if toB (if toB (if toB (Value.bool (C && allB (clearP c) 0 k)) = true then Value.bool (decide (rq c k 0 > 0)) else .bool false) = true then Value.bool (decide (rq c k 0 ≤ 100)) else .bool false) = true then Value.bool (decide (rq c k 2 ≤ 100)) else .bool false)] = [p, q] := fun p q h1 h2 => by rw [h1, h2]
            exact e5 _ _ e4 e2
          · show n - (toI (.int .i64 (IntKind.i64.wrap ((k : Int) + 1)))).toNat < n - (toI (.int .i64 (k : Int))).toNat
            rw [wrap_next hlt (by omega)]
            simp only [toI_int, Int.toNat_natCast]
            omega
        · have hge : ¬ k < n := by simpa using h
          obtain rfl : k = n := by omega
          cases hall : (C && allB (clearP c) 0 k) with
          | false =>
            intro u hu
            exact evs_nil (evs_step ⟨fun h => (by cases h), fun _ => ⟨fun h => (by cases h), fun _ => evs_nil hK⟩⟩)
          | true =>
            have hall2 := hall
            simp only [Bool.and_eq_true] at hall2
            obtain ⟨a3, a4⟩ := hall2
            have a3' : clear0 (allB (fun k => rq c k 1 == 0) 0 k) g = true := by rw [hC]; exact a3
            obtain ⟨e1, f1, q1, E, F, hE, x, y, q2, w1, w2⟩ := single_near (c := c) (n := k) (a' := a) (cap := cap) (g := g) rfl rfl hn4 hsm hsa hsb hok hv1 hw a3' a4
            cases q1
            subst q2
            obtain ⟨⟨p1, p2, p3⟩, p4, p5, p6⟩ := w1
            obtain ⟨⟨r1, r2, r3⟩, r4, r5, r6⟩ := w2
            refine evs_step (cc_step (x := (e, f)) (r := (E, F)) rfl hE (evs_nil ?_))
            refine evs_step ⟨fun _ => ⟨_, _, _, p1, p4, rfl, ⟨p2, p3⟩, ⟨p5, p6⟩, ?_⟩, fun h => (by cases h)⟩
            exact ⟨fun _ => ⟨_, _, _, r1, r4, rfl, ⟨r2, r3⟩, ⟨r5, r6⟩, evs_nil hK⟩, fun h => (by cases h)⟩
      · exact absurd (hno.symm.trans hok) (by decide)
    · exact absurd (hno.symm.trans hok) (by decide)
  · refine evs_step (call_step (sp := sFilmSpec) rfl (sf_use rfl rfl (a := (g 0, g 1, g 2)) (b := (g 3, g 4, g 5)) rfl rfl (n := n) rfl fit hn4 hsm hsa hsb (fun hyes v2 hv2 => ?_) (fun _ => evs_nil ?_)))
    · exact absurd (hok.symm.trans hyes) (by decide)
    · refine evs_step ⟨fun _ => ⟨0, 0, 0, 0, rfl, .inl rfl, .inl rfl, evs_nil (sat_ite1 rfl ?_)⟩, fun h => (by cases h)⟩
      exact evs_step ⟨fun _ => ⟨0, 0, 0, 0, rfl, .inl rfl, .inl rfl, evs_nil hK⟩, fun h => (by cases h)⟩

end Go.Sx

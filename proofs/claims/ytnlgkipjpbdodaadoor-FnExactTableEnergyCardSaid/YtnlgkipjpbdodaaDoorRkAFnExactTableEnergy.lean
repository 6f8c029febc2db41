/- What the functions reckon, by their trees. -/
import Derived.Test.YtnlgkipjpbdodaaDoorEe
import Derived.KernelRfl
namespace Go.Sx
open Go
set_option maxRecDepth 100000
set_option linter.unusedSimpArgs false
set_option linter.unusedVariables false

def tr_size : Tr :=
  (.ret [(.mx false .i64 (.var 0) (.ar .sub .i64 (.int .i64 0) (.var 0)))])
def Fs_size : List Fun1 := []
def F_size : Fun1 := ofTree Fs_size tr_size

def tr_within : Tr :=
  (.ret [(.ite (.cmp .geq (.var 0) (.var 1)) (.cmp .leq (.var 0) (.var 2)) (.bool false))])
def Fs_within : List Fun1 := []
def F_within : Fun1 := ofTree Fs_within tr_within
def G_within : Fun1 := ⟨fun _ => True, fun ins => [.bool (inRg (i0 ins 0) (i0 ins 1) (i0 ins 2))]⟩
theorem as_within (ins : List Value) (ht : TypedL [.int .i64, .int .i64, .int .i64] ins) (_ : G_within.pre ins) : F_within.pre ins ∧ F_within.out ins = G_within.out ins := by
  obtain ⟨a, b, c, rfl, _, _, _⟩ := ints3 ht
  refine ⟨trivial, ?_⟩
  show [if (decide (a ≥ b)) = true then Value.bool (decide (a ≤ c)) else Value.bool false] = [Value.bool (decide (b ≤ a) && decide (a ≤ c))]
  by_cases h : b ≤ a <;> simp [h]

def tr_l6In : Tr :=
  (.ret [(.ite (.cmp .geq (.var 0) (.var 1)) (.cmp .leq (.var 0) (.var 2)) (.bool false))])
def Fs_l6In : List Fun1 := []
def F_l6In : Fun1 := ofTree Fs_l6In tr_l6In
def G_l6In : Fun1 := ⟨fun _ => True, fun ins => [.bool (inRg (i0 ins 0) (i0 ins 1) (i0 ins 2))]⟩
theorem as_l6In (ins : List Value) (ht : TypedL [.int .i64, .int .i64, .int .i64] ins) (_ : G_l6In.pre ins) : F_l6In.pre ins ∧ F_l6In.out ins = G_l6In.out ins := by
  obtain ⟨a, b, c, rfl, _, _, _⟩ := ints3 ht
  refine ⟨trivial, ?_⟩
  show [if (decide (a ≥ b)) = true then Value.bool (decide (a ≤ c)) else Value.bool false] = [Value.bool (decide (b ≤ a) && decide (a ≤ c))]
  by_cases h : b ≤ a <;> simp [h]

def tr_l2In : Tr :=
  (.evs [.call 0 [(.var 0), (.int .i64 (-2000000000)), (.int .i64 2000000000)] none 1]
  (.ret [(.var 1)]))
def Fs_l2In : List Fun1 := [G_l6In]
def F_l2In : Fun1 := ofTree Fs_l2In tr_l2In
def G_l2In : Fun1 := ⟨fun _ => True, fun ins => [.bool (inR (i0 ins 0))]⟩
theorem as_l2In (ins : List Value) (ht : TypedL [.int .i64] ins) (_ : G_l2In.pre ins) : F_l2In.pre ins ∧ F_l2In.out ins = G_l2In.out ins := by
  obtain ⟨a, rfl, _⟩ := ints1 ht
  exact ⟨⟨⟨trivial, trivial⟩, trivial⟩, rfl⟩

def tr_divisor : Tr :=
  (.lp 0 [(.var 0), (.var 1)] [.int .i64, .int .i64]
  (.ite (.cmp .neq (.var 3) (.int .i64 0))
   (.evs [.need [(.cmp .neq (.var 3) (.int .i64 0))]]
    (.next 0 [(.var 3), (.ar .rem .i64 (.var 2) (.var 3))]))
   (.ret [(.var 2)])))
def Fs_divisor : List Fun1 := []
def F_divisor : Fun1 := ⟨fun _ => True, fun ins => [.int .i64 (euc (i0 ins 0) (i0 ins 1))]⟩
theorem sat_divisor (P : Program) (ins : List Value) (K : List Value → Prop) (ht : TypedL [.int .i64, .int .i64] ins) (_ : F_divisor.pre ins) (hK : K (F_divisor.out ins)) : sat P (specsOf Fs_divisor) tr_divisor ins [] K := by
  obtain ⟨a, b, rfl, wa, wb⟩ := ints2 ht
  refine ⟨fun vs => ∃ x y, vs = [.int .i64 x, .int .i64 y] ∧ euc x y = euc a b, fun vs => (toI (vs.getD 1 undef)).natAbs, ⟨a, b, rfl, rfl⟩, ?_⟩
  rintro vs hty ⟨x, y, rfl, he⟩
  refine ⟨fun hc => ?_, fun hc => ?_⟩
  · have hy : y ≠ 0 := by simpa [ev, cmpI] using hc
    refine ⟨fun e he' => by rw [List.mem_singleton.1 he']; exact hc, ⟨_, _, rfl, ?_⟩, ?_⟩
    · rw [← he, euc_step hy]; rfl
    · show (x.tmod y).natAbs < y.natAbs
      rw [Int.natAbs_tmod]
      exact Nat.mod_lt _ (by omega)
  · have hy : y = 0 := by simpa [ev, cmpI] using hc
    subst hy
    rw [euc_zero] at he
    show K [.int .i64 x]
    rw [he]
    exact hK

def tr_l2Gcd : Tr :=
  (.lp 0 [(.var 0), (.var 1)] [.int .i64, .int .i64]
  (.ite (.cmp .neq (.var 3) (.int .i64 0))
   (.evs [.need [(.cmp .neq (.var 3) (.int .i64 0))]]
    (.next 0 [(.var 3), (.ar .rem .i64 (.var 2) (.var 3))]))
   (.ret [(.mx false .i64 (.var 2) (.ar .sub .i64 (.int .i64 0) (.var 2)))])))
def Fs_l2Gcd : List Fun1 := []
def F_l2Gcd : Fun1 := ⟨fun _ => True, fun ins => [.int .i64 (mxI false (euc (i0 ins 0) (i0 ins 1)) (IntKind.i64.wrap (0 - euc (i0 ins 0) (i0 ins 1))))]⟩
theorem sat_l2Gcd (P : Program) (ins : List Value) (K : List Value → Prop) (ht : TypedL [.int .i64, .int .i64] ins) (_ : F_l2Gcd.pre ins) (hK : K (F_l2Gcd.out ins)) : sat P (specsOf Fs_l2Gcd) tr_l2Gcd ins [] K := by
  obtain ⟨a, b, rfl, wa, wb⟩ := ints2 ht
  refine ⟨fun vs => ∃ x y, vs = [.int .i64 x, .int .i64 y] ∧ euc x y = euc a b, fun vs => (toI (vs.getD 1 undef)).natAbs, ⟨a, b, rfl, rfl⟩, ?_⟩
  rintro vs hty ⟨x, y, rfl, he⟩
  refine ⟨fun hc => ?_, fun hc => ?_⟩
  · have hy : y ≠ 0 := by simpa [ev, cmpI] using hc
    refine ⟨fun e he' => by rw [List.mem_singleton.1 he']; exact hc, ⟨_, _, rfl, ?_⟩, ?_⟩
    · rw [← he, euc_step hy]; rfl
    · show (x.tmod y).natAbs < y.natAbs
      rw [Int.natAbs_tmod]
      exact Nat.mod_lt _ (by omega)
  · have hy : y = 0 := by simpa [ev, cmpI] using hc
    subst hy
    rw [euc_zero] at he
    show K [.int .i64 (mxI false x (IntKind.i64.wrap (0 - x)))]
    rw [he]
    exact hK

def tr_lowest : Tr :=
  (.evs [.call 0 [(.var 0)] none 1,
    .call 0 [(.var 1)] none 1,
    .call 1 [(.var 3), (.var 4)] none 1,
    .call 1 [(.var 5), (.var 2)] none 1]
  (.evs [.need [(.cmp .neq (.var 6) (.int .i64 0)), (.cmp .neq (.var 6) (.int .i64 0)), (.cmp .neq (.var 6) (.int .i64 0))]]
  (.evs [.call 2 [(.ar .quo .i64 (.var 0) (.var 6)), (.int .i64 (-2000000000)), (.int .i64 2000000000)] none 1,
    .call 2 [(.ar .quo .i64 (.var 1) (.var 6)), (.int .i64 (-2000000000)), (.int .i64 2000000000)] (some (.not (.not (.var 7)))) 1]
  (.ite (.ite (.ite (.not (.var 7)) (.bool true) (.not (.var 8))) (.bool true) (.cmp .gtr (.ar .quo .i64 (.var 2) (.var 6)) (.int .i64 2000000000)))
  (.ret [(.int .i64 0), (.int .i64 0), (.int .i64 0), (.bool false)])
  (.ret [(.ar .quo .i64 (.var 0) (.var 6)), (.ar .quo .i64 (.var 1) (.var 6)), (.ar .quo .i64 (.var 2) (.var 6)), (.bool true)])))))
def Fs_lowest : List Fun1 := [F_size, F_divisor, G_within]
def F_lowest : Fun1 := ofTree Fs_lowest tr_lowest
def G_lowest : Fun1 := ⟨fun ins => lowOk (i0 ins 0) (i0 ins 1) (i0 ins 2), fun ins => fr4 (lowI (i0 ins 0) (i0 ins 1) (i0 ins 2))⟩
theorem as_lowest (ins : List Value) (ht : TypedL [.int .i64, .int .i64, .int .i64] ins) (hp : G_lowest.pre ins) : F_lowest.pre ins ∧ F_lowest.out ins = G_lowest.out ins := by
  obtain ⟨a, b, c, rfl, wa, wb, wc⟩ := ints3 ht
  obtain ⟨p1, p2, p3, p4, p5, p6⟩ : lowOk a b c := hp
  have e1 := size_abs ⟨p1, p2⟩
  have e2 := size_abs ⟨p3, p4⟩
  have e3 : euc (a.natAbs : Nat) (b.natAbs : Nat) = (Nat.gcd a.natAbs b.natAbs : Nat) := euc_nat _ _
  have e4 : euc (Nat.gcd a.natAbs b.natAbs : Nat) c = (gcd3 a b c : Nat) := by rw [euc_eq (by omega) (by omega)]; rfl
  have hg : gcd3 a b c ≠ 0 := by have := gcd3_pos (a := a) (b := b) p5; omega
  have hgi : ((gcd3 a b c : Nat) : Int) ≠ 0 := by omega
  have q1 := quo_ok (g := gcd3 a b c) ⟨p1, p2⟩
  have q2 := quo_ok (g := gcd3 a b c) ⟨p3, p4⟩
  have q3 := quo_ok (a := c) (g := gcd3 a b c) ⟨by omega, p6⟩
  simp only [F_lowest, G_lowest, tr_lowest, Fs_lowest, F_size, tr_size, Fs_size, F_divisor, G_within, lowI, arI, ofTree, okT, okE, evalT, evalE, evsIn, ev, callF, preF, hasF, needs, i0, b0, toI_int, toB_bool, List.getD_cons_zero, List.getD_cons_succ, List.cons_append, List.nil_append, List.replicate, if_true, if_false, Bool.false_eq_true, and_true, true_and, implies_true, forall_const, false_implies, cmpI, Bool.not_true, Bool.not_false, Bool.true_and, Bool.false_and, Bool.and_true, Bool.and_false, reduceIte, List.append_nil, reduceCtorEq, e1, e2, e3, e4, q1, q2, q3]
  have r1 : ∀ z, inRg z (-2000000000) 2000000000 = inR z := fun _ => rfl
  simp only [r1]
  cases h1 : inR (a.tdiv (gcd3 a b c)) <;> cases h2 : inR (b.tdiv (gcd3 a b c)) <;> by_cases h3 : c.tdiv (gcd3 a b c) ≤ 2000000000 <;> simp [h1, h2, h3, hgi, hg, fr4, zq] <;> omega

def tr_sFracValid : Tr :=
  (.evs [.call 0 [(.var 0)] none 1,
    .call 0 [(.var 1)] (some (.var 3)) 1,
    .call 1 [(.var 2), (.int .i64 1), (.int .i64 2000000000)] (some (.ite (.var 3) (.var 4) (.bool false))) 1,
    .call 2 [(.var 2), (.var 0)] (some (.ite (.ite (.var 3) (.var 4) (.bool false)) (.var 5) (.bool false))) 1,
    .call 2 [(.var 6), (.var 1)] (some (.ite (.ite (.var 3) (.var 4) (.bool false)) (.var 5) (.bool false))) 1]
  (.ret [(.ite (.ite (.ite (.var 3) (.var 4) (.bool false)) (.var 5) (.bool false)) (.cmp .eql (.var 7) (.int .i64 1)) (.bool false))]))
def Fs_sFracValid : List Fun1 := [G_l2In, G_l6In, F_l2Gcd]
def F_sFracValid : Fun1 := ofTree Fs_sFracValid tr_sFracValid
def G_sFracValid : Fun1 := ⟨fun _ => True, fun ins => [.bool (validI (i0 ins 0) (i0 ins 1) (i0 ins 2))]⟩
theorem as_sFracValid (ins : List Value) (ht : TypedL [.int .i64, .int .i64, .int .i64] ins) (_ : G_sFracValid.pre ins) : F_sFracValid.pre ins ∧ F_sFracValid.out ins = G_sFracValid.out ins := by
  obtain ⟨a, b, c, rfl, wa, wb, wc⟩ := ints3 ht
  have key : inR a = true → inR b = true → inRg c 1 2000000000 = true → mxI false (euc c a) (IntKind.i64.wrap (0 - euc c a)) = (Nat.gcd c.natAbs a.natAbs : Nat) ∧
      mxI false (euc (Nat.gcd c.natAbs a.natAbs : Nat) b) (IntKind.i64.wrap (0 - euc (Nat.gcd c.natAbs a.natAbs : Nat) b)) = (gcd3 a b c : Nat) := by
    intro ha hb hc
    simp only [inR, inRg, Bool.and_eq_true, decide_eq_true_eq] at ha hb hc
    have h0 : Nat.gcd c.natAbs a.natAbs ≤ c.natAbs := Nat.gcd_le_left _ (by omega)
    have hp : 0 < Nat.gcd c.natAbs a.natAbs := Nat.gcd_pos_of_pos_left _ (by omega)
    refine ⟨gcd_small (by omega), ?_⟩
    have h2 : Nat.gcd ((Nat.gcd c.natAbs a.natAbs : Nat) : Int).natAbs b.natAbs ≤ Nat.gcd c.natAbs a.natAbs := Nat.gcd_le_left _ hp
    rw [gcd_small (by omega), Int.natAbs_natCast, gcd3_alt]
  simp only [F_sFracValid, G_sFracValid, tr_sFracValid, Fs_sFracValid, G_l2In, G_l6In, F_l2Gcd, validI, ofTree, okT, okE, evalT, evalE, evsIn, ev, callF, preF, hasF, needs, i0, b0, toI_int, toB_bool, List.getD_cons_zero, List.getD_cons_succ, List.cons_append, List.nil_append, List.replicate, if_true, if_false, Bool.false_eq_true, and_true, true_and, implies_true, forall_const, false_implies, cmpI, Bool.not_true, Bool.not_false, Bool.true_and, Bool.false_and, Bool.and_true, Bool.and_false, reduceIte, List.append_nil, reduceCtorEq]
  cases ha : inR a
  · simp [ha]
  · cases hb : inR b
    · simp [ha, hb]
    · cases hc : inRg c 1 2000000000
      · simp [ha, hb, hc]
      · obtain ⟨k1, k2⟩ := key ha hb hc
        simp only [ha, hb, hc, k1, k2, ofTree, okT, okE, evalT, evalE, evsIn, ev, callF, preF, hasF, needs, i0, b0, toI_int, toB_bool, List.getD_cons_zero, List.getD_cons_succ, List.cons_append, List.nil_append, List.replicate, if_true, if_false, Bool.false_eq_true, and_true, true_and, implies_true, forall_const, false_implies, cmpI, Bool.not_true, Bool.not_false, Bool.true_and, Bool.false_and, Bool.and_true, Bool.and_false, reduceIte, List.append_nil, reduceCtorEq]
        simp
        by_cases h1 : gcd3 a b c = 1
        · simp [h1]
        · rw [beq_eq_false_iff_ne.2 h1, beq_eq_false_iff_ne]
          omega

def tr_l2Low : Tr :=
  (.evs [.call 0 [(.var 2), (.var 0)] none 1,
    .call 0 [(.var 3), (.var 1)] none 1]
  (.evs [.need [(.cmp .neq (.var 4) (.int .i64 0)), (.cmp .neq (.var 4) (.int .i64 0)), (.cmp .neq (.var 4) (.int .i64 0))]]
  (.evs [.call 1 [(.ar .quo .i64 (.var 0) (.var 4)), (.ar .quo .i64 (.var 1) (.var 4)), (.ar .quo .i64 (.var 2) (.var 4))] none 1]
  (.ite (.not (.var 5))
  (.ret [(.int .i64 0), (.int .i64 0), (.int .i64 0), (.bool false)])
  (.ret [(.ar .quo .i64 (.var 0) (.var 4)), (.ar .quo .i64 (.var 1) (.var 4)), (.ar .quo .i64 (.var 2) (.var 4)), (.bool true)])))))
def Fs_l2Low : List Fun1 := [F_l2Gcd, G_sFracValid]
def F_l2Low : Fun1 := ofTree Fs_l2Low tr_l2Low
def G_l2Low : Fun1 := ⟨fun ins => lowOk (i0 ins 0) (i0 ins 1) (i0 ins 2), fun ins => fr4 (lowI (i0 ins 0) (i0 ins 1) (i0 ins 2))⟩
theorem as_l2Low (ins : List Value) (ht : TypedL [.int .i64, .int .i64, .int .i64] ins) (hp : G_l2Low.pre ins) : F_l2Low.pre ins ∧ F_l2Low.out ins = G_l2Low.out ins := by
  obtain ⟨a, b, c, rfl, wa, wb, wc⟩ := ints3 ht
  obtain ⟨p1, p2, p3, p4, p5, p6⟩ : lowOk a b c := hp
  have hc0 : 0 < c.natAbs := by omega
  have g1 : Nat.gcd c.natAbs a.natAbs ≤ c.natAbs := Nat.gcd_le_left _ hc0
  have gp : 0 < Nat.gcd c.natAbs a.natAbs := Nat.gcd_pos_of_pos_left _ hc0
  have e1 : mxI false (euc c a) (IntKind.i64.wrap (0 - euc c a)) = (Nat.gcd c.natAbs a.natAbs : Nat) := gcd_small (by omega)
  have g2 : Nat.gcd ((Nat.gcd c.natAbs a.natAbs : Nat) : Int).natAbs b.natAbs ≤ Nat.gcd c.natAbs a.natAbs := Nat.gcd_le_left _ gp
  have e2 : mxI false (euc (Nat.gcd c.natAbs a.natAbs : Nat) b) (IntKind.i64.wrap (0 - euc (Nat.gcd c.natAbs a.natAbs : Nat) b)) = (gcd3 a b c : Nat) := by
    rw [gcd_small (by omega), Int.natAbs_natCast, gcd3_alt]
  have hg : gcd3 a b c ≠ 0 := by have := gcd3_pos (a := a) (b := b) p5; omega
  have hgi : ((gcd3 a b c : Nat) : Int) ≠ 0 := by omega
  have q1 := quo_ok (g := gcd3 a b c) ⟨p1, p2⟩
  have q2 := quo_ok (g := gcd3 a b c) ⟨p3, p4⟩
  have q3 := quo_ok (a := c) (g := gcd3 a b c) ⟨by omega, p6⟩
  simp only [F_l2Low, G_l2Low, tr_l2Low, Fs_l2Low, F_l2Gcd, G_sFracValid, lowI, arI, ofTree, okT, okE, evalT, evalE, evsIn, ev, callF, preF, hasF, needs, i0, b0, toI_int, toB_bool, List.getD_cons_zero, List.getD_cons_succ, List.cons_append, List.nil_append, List.replicate, if_true, if_false, Bool.false_eq_true, and_true, true_and, implies_true, forall_const, false_implies, cmpI, Bool.not_true, Bool.not_false, Bool.true_and, Bool.false_and, Bool.and_true, Bool.and_false, reduceIte, List.append_nil, reduceCtorEq, e1, e2, q1, q2, q3, valid_low p5]
  cases h1 : inR (a.tdiv (gcd3 a b c)) <;> cases h2 : inR (b.tdiv (gcd3 a b c)) <;> by_cases h3 : c.tdiv (gcd3 a b c) ≤ 2000000000 <;> simp [h1, h2, h3, hgi, hg, fr4, zq] <;> omega

def tr_iFracValid : Tr :=
  (.evs [.call 0 [(.var 0), (.int .i64 (-2000000000)), (.int .i64 2000000000)] none 1,
    .call 0 [(.var 1), (.int .i64 (-2000000000)), (.int .i64 2000000000)] (some (.var 3)) 1,
    .call 0 [(.var 2), (.int .i64 1), (.int .i64 2000000000)] (some (.ite (.var 3) (.var 4) (.bool false))) 1,
    .call 2 [(.var 0)] (some (.ite (.ite (.var 3) (.var 4) (.bool false)) (.var 5) (.bool false))) 1,
    .call 2 [(.var 1)] (some (.ite (.ite (.var 3) (.var 4) (.bool false)) (.var 5) (.bool false))) 1,
    .call 1 [(.var 6), (.var 7)] (some (.ite (.ite (.var 3) (.var 4) (.bool false)) (.var 5) (.bool false))) 1,
    .call 1 [(.var 8), (.var 2)] (some (.ite (.ite (.var 3) (.var 4) (.bool false)) (.var 5) (.bool false))) 1]
  (.ret [(.ite (.ite (.ite (.var 3) (.var 4) (.bool false)) (.var 5) (.bool false)) (.cmp .eql (.var 9) (.int .i64 1)) (.bool false))]))
def Fs_iFracValid : List Fun1 := [G_within, F_divisor, F_size]
def F_iFracValid : Fun1 := ofTree Fs_iFracValid tr_iFracValid
def G_iFracValid : Fun1 := ⟨fun _ => True, fun ins => [.bool (validI (i0 ins 0) (i0 ins 1) (i0 ins 2))]⟩
theorem as_iFracValid (ins : List Value) (ht : TypedL [.int .i64, .int .i64, .int .i64] ins) (_ : G_iFracValid.pre ins) : F_iFracValid.pre ins ∧ F_iFracValid.out ins = G_iFracValid.out ins := by
  obtain ⟨a, b, c, rfl, wa, wb, wc⟩ := ints3 ht
  have key : inR a = true → inR b = true → inRg c 1 2000000000 = true → mxI false a (IntKind.i64.wrap (0 - a)) = a.natAbs ∧ mxI false b (IntKind.i64.wrap (0 - b)) = b.natAbs ∧
      euc (a.natAbs : Nat) (b.natAbs : Nat) = (Nat.gcd a.natAbs b.natAbs : Nat) ∧ euc (Nat.gcd a.natAbs b.natAbs : Nat) c = (gcd3 a b c : Nat) := by
    intro ha hb hc
    simp only [inR, inRg, Bool.and_eq_true, decide_eq_true_eq] at ha hb hc
    exact ⟨size_abs (by omega), size_abs (by omega), euc_nat _ _, by rw [euc_eq (by omega) (by omega)]; rfl⟩
  have r1 : ∀ z, inRg z (-2000000000) 2000000000 = inR z := fun _ => rfl
  cases ha : inR a
  · simp only [F_iFracValid, G_iFracValid, tr_iFracValid, Fs_iFracValid, G_within, F_divisor, F_size, tr_size, Fs_size, validI, arI, r1, ha, ofTree, okT, okE, evalT, evalE, evsIn, ev, callF, preF, hasF, needs, i0, b0, toI_int, toB_bool, List.getD_cons_zero, List.getD_cons_succ, List.cons_append, List.nil_append, List.replicate, if_true, if_false, Bool.false_eq_true, and_true, true_and, implies_true, forall_const, false_implies, cmpI, Bool.not_true, Bool.not_false, Bool.true_and, Bool.false_and, Bool.and_true, Bool.and_false, reduceIte, List.append_nil, reduceCtorEq]
  · cases hb : inR b
    · simp only [F_iFracValid, G_iFracValid, tr_iFracValid, Fs_iFracValid, G_within, F_divisor, F_size, tr_size, Fs_size, validI, arI, r1, ha, hb, ofTree, okT, okE, evalT, evalE, evsIn, ev, callF, preF, hasF, needs, i0, b0, toI_int, toB_bool, List.getD_cons_zero, List.getD_cons_succ, List.cons_append, List.nil_append, List.replicate, if_true, if_false, Bool.false_eq_true, and_true, true_and, implies_true, forall_const, false_implies, cmpI, Bool.not_true, Bool.not_false, Bool.true_and, Bool.false_and, Bool.and_true, Bool.and_false, reduceIte, List.append_nil, reduceCtorEq]
    · cases hc : inRg c 1 2000000000
      · simp only [F_iFracValid, G_iFracValid, tr_iFracValid, Fs_iFracValid, G_within, F_divisor, F_size, tr_size, Fs_size, validI, arI, r1, ha, hb, hc, ofTree, okT, okE, evalT, evalE, evsIn, ev, callF, preF, hasF, needs, i0, b0, toI_int, toB_bool, List.getD_cons_zero, List.getD_cons_succ, List.cons_append, List.nil_append, List.replicate, if_true, if_false, Bool.false_eq_true, and_true, true_and, implies_true, forall_const, false_implies, cmpI, Bool.not_true, Bool.not_false, Bool.true_and, Bool.false_and, Bool.and_true, Bool.and_false, reduceIte, List.append_nil, reduceCtorEq]
      · obtain ⟨k1, k2, k3, k4⟩ := key ha hb hc
        simp only [F_iFracValid, G_iFracValid, tr_iFracValid, Fs_iFracValid, G_within, F_divisor, F_size, tr_size, Fs_size, validI, arI, r1, ha, hb, hc, k1, k2, k3, k4, ofTree, okT, okE, evalT, evalE, evsIn, ev, callF, preF, hasF, needs, i0, b0, toI_int, toB_bool, List.getD_cons_zero, List.getD_cons_succ, List.cons_append, List.nil_append, List.replicate, if_true, if_false, Bool.false_eq_true, and_true, true_and, implies_true, forall_const, false_implies, cmpI, Bool.not_true, Bool.not_false, Bool.true_and, Bool.false_and, Bool.and_true, Bool.and_false, reduceIte, List.append_nil, reduceCtorEq]
        by_cases h1 : gcd3 a b c = 1
        · simp [h1]
        · have h2 : ((gcd3 a b c : Nat) : Int) ≠ 1 := by omega
          rw [beq_eq_false_iff_ne.2 h2, beq_eq_false_iff_ne.2 h1]

def tr_realOk : Tr :=
  (.evs [.call 0 [(.var 0), (.var 1), (.var 2)] none 1]
  (.ret [(.ite (.var 3) (.cmp .eql (.var 1) (.int .i64 0)) (.bool false))]))
def Fs_realOk : List Fun1 := [G_iFracValid]
def F_realOk : Fun1 := ofTree Fs_realOk tr_realOk
def G_realOk : Fun1 := ⟨fun _ => True, fun ins => [.bool (realQ (q3 ins 0))]⟩
theorem as_realOk (ins : List Value) (ht : TypedL [.int .i64, .int .i64, .int .i64] ins) (_ : G_realOk.pre ins) : F_realOk.pre ins ∧ F_realOk.out ins = G_realOk.out ins := by
  obtain ⟨a, b, c, rfl, wa, wb, wc⟩ := ints3 ht
  simp only [F_realOk, G_realOk, tr_realOk, Fs_realOk, G_iFracValid, realQ, validQ, q3, ofTree, okT, okE, evalT, evalE, evsIn, ev, callF, preF, hasF, needs, i0, b0, toI_int, toB_bool, List.getD_cons_zero, List.getD_cons_succ, List.cons_append, List.nil_append, List.replicate, if_true, if_false, Bool.false_eq_true, and_true, true_and, implies_true, forall_const, false_implies, cmpI, Bool.not_true, Bool.not_false, Bool.true_and, Bool.false_and, Bool.and_true, Bool.and_false, reduceIte, List.append_nil, reduceCtorEq]
  cases h : validI a b c <;> simp [h]

def tr_iFracAdd : Tr :=
  (.evs [.call 0 [(.var 0), (.var 1), (.var 2)] none 1,
    .call 0 [(.var 3), (.var 4), (.var 5)] (some (.not (.not (.var 6)))) 1]
  (.ite (.ite (.not (.var 6)) (.bool true) (.not (.var 7)))
  (.ret [(.int .i64 0), (.int .i64 0), (.int .i64 0), (.bool false)])
  (.evs [.call 1 [(.ar .add .i64 (.ar .mul .i64 (.var 0) (.var 5)) (.ar .mul .i64 (.var 3) (.var 2))), (.ar .add .i64 (.ar .mul .i64 (.var 1) (.var 5)) (.ar .mul .i64 (.var 4) (.var 2))), (.ar .mul .i64 (.var 2) (.var 5))] none 4]
   (.ret [(.var 8), (.var 9), (.var 10), (.var 11)]))))
def Fs_iFracAdd : List Fun1 := [G_iFracValid, G_lowest]
def F_iFracAdd : Fun1 := ofTree Fs_iFracAdd tr_iFracAdd
def G_iFracAdd : Fun1 := ⟨fun _ => True, fun ins => fr4 (addQ (q3 ins 0) (q3 ins 3))⟩
theorem as_iFracAdd (ins : List Value) (ht : TypedL [.int .i64, .int .i64, .int .i64, .int .i64, .int .i64, .int .i64] ins) (_ : G_iFracAdd.pre ins) : F_iFracAdd.pre ins ∧ F_iFracAdd.out ins = G_iFracAdd.out ins := by
  obtain ⟨a, b, c, x, y, z, rfl, _⟩ := ints6 ht
  simp only [F_iFracAdd, G_iFracAdd, tr_iFracAdd, Fs_iFracAdd, G_iFracValid, G_lowest, addQ, validQ, q3, arI, ofTree, okT, okE, evalT, evalE, evsIn, ev, callF, preF, hasF, needs, i0, b0, toI_int, toB_bool, List.getD_cons_zero, List.getD_cons_succ, List.cons_append, List.nil_append, List.replicate, if_true, if_false, Bool.false_eq_true, and_true, true_and, implies_true, forall_const, false_implies, cmpI, Bool.not_true, Bool.not_false, Bool.true_and, Bool.false_and, Bool.and_true, Bool.and_false, reduceIte, List.append_nil, reduceCtorEq]
  cases h : validI a b c
  · simp [h, fr4, zq]
  · cases k : validI x y z
    · simp [h, k, fr4, zq]
    · obtain ⟨e1, e2, e3, e4, e5, e6, e7, e8, e9, l1, l2⟩ := sum_facts h k
      simp only [h, k, e1, e2, e3, e4, e5, e6, e7, ofTree, okT, okE, evalT, evalE, evsIn, ev, callF, preF, hasF, needs, i0, b0, toI_int, toB_bool, List.getD_cons_zero, List.getD_cons_succ, List.cons_append, List.nil_append, List.replicate, if_true, if_false, Bool.false_eq_true, and_true, true_and, implies_true, forall_const, false_implies, cmpI, Bool.not_true, Bool.not_false, Bool.true_and, Bool.false_and, Bool.and_true, Bool.and_false, reduceIte, List.append_nil, reduceCtorEq]
      simp [fr4, l1]

def tr_iFracTimes : Tr :=
  (.evs [.call 0 [(.var 0), (.var 1), (.var 2)] none 1,
    .call 0 [(.var 3), (.var 4), (.var 5)] (some (.not (.not (.var 6)))) 1]
  (.ite (.ite (.not (.var 6)) (.bool true) (.not (.var 7)))
  (.ret [(.int .i64 0), (.int .i64 0), (.int .i64 0), (.bool false)])
  (.evs [.call 1 [(.ar .sub .i64 (.ar .mul .i64 (.var 0) (.var 3)) (.ar .mul .i64 (.var 1) (.var 4))), (.ar .add .i64 (.ar .mul .i64 (.var 0) (.var 4)) (.ar .mul .i64 (.var 1) (.var 3))), (.ar .mul .i64 (.var 2) (.var 5))] none 4]
   (.ret [(.var 8), (.var 9), (.var 10), (.var 11)]))))
def Fs_iFracTimes : List Fun1 := [G_iFracValid, G_lowest]
def F_iFracTimes : Fun1 := ofTree Fs_iFracTimes tr_iFracTimes
def G_iFracTimes : Fun1 := ⟨fun _ => True, fun ins => fr4 (timesQ (q3 ins 0) (q3 ins 3))⟩
theorem as_iFracTimes (ins : List Value) (ht : TypedL [.int .i64, .int .i64, .int .i64, .int .i64, .int .i64, .int .i64] ins) (_ : G_iFracTimes.pre ins) : F_iFracTimes.pre ins ∧ F_iFracTimes.out ins = G_iFracTimes.out ins := by
  obtain ⟨a, b, c, x, y, z, rfl, _⟩ := ints6 ht
  simp only [F_iFracTimes, G_iFracTimes, tr_iFracTimes, Fs_iFracTimes, G_iFracValid, G_lowest, timesQ, validQ, q3, arI, ofTree, okT, okE, evalT, evalE, evsIn, ev, callF, preF, hasF, needs, i0, b0, toI_int, toB_bool, List.getD_cons_zero, List.getD_cons_succ, List.cons_append, List.nil_append, List.replicate, if_true, if_false, Bool.false_eq_true, and_true, true_and, implies_true, forall_const, false_implies, cmpI, Bool.not_true, Bool.not_false, Bool.true_and, Bool.false_and, Bool.and_true, Bool.and_false, reduceIte, List.append_nil, reduceCtorEq]
  cases h : validI a b c
  · simp [h, fr4, zq]
  · cases k : validI x y z
    · simp [h, k, fr4, zq]
    · obtain ⟨e1, e2, e3, e4, e5, e6, e7, l1⟩ := mul_facts h k
      simp only [h, k, e1, e2, e3, e4, e5, e6, e7, ofTree, okT, okE, evalT, evalE, evsIn, ev, callF, preF, hasF, needs, i0, b0, toI_int, toB_bool, List.getD_cons_zero, List.getD_cons_succ, List.cons_append, List.nil_append, List.replicate, if_true, if_false, Bool.false_eq_true, and_true, true_and, implies_true, forall_const, false_implies, cmpI, Bool.not_true, Bool.not_false, Bool.true_and, Bool.false_and, Bool.and_true, Bool.and_false, reduceIte, List.append_nil, reduceCtorEq]
      simp [fr4, l1]

def tr_l2Sum : Tr :=
  (.evs [.call 0 [(.var 0), (.var 1), (.var 2)] none 1,
    .call 0 [(.var 4), (.var 5), (.var 6)] (some (.not (.not (.var 7)))) 1]
  (.ite (.ite (.not (.var 7)) (.bool true) (.not (.var 8)))
  (.ret [(.int .i64 0), (.int .i64 0), (.int .i64 0), (.bool false)])
  (.evs [.call 1 [(.ar .add .i64 (.ar .mul .i64 (.var 0) (.var 6)) (.ar .mul .i64 (.ar .mul .i64 (.var 3) (.var 4)) (.var 2))), (.ar .add .i64 (.ar .mul .i64 (.var 1) (.var 6)) (.ar .mul .i64 (.ar .mul .i64 (.var 3) (.var 5)) (.var 2))), (.ar .mul .i64 (.var 2) (.var 6))] none 4]
   (.ret [(.var 9), (.var 10), (.var 11), (.var 12)]))))
def Fs_l2Sum : List Fun1 := [G_sFracValid, G_l2Low]
def F_l2Sum : Fun1 := ofTree Fs_l2Sum tr_l2Sum
def G_l2Sum : Fun1 := ⟨fun ins => i0 ins 3 = 1 ∨ i0 ins 3 = -1, fun ins => fr4 (if i0 ins 3 = 1 then addQ (q3 ins 0) (q3 ins 4) else lessQ (q3 ins 0) (q3 ins 4))⟩
theorem as_l2Sum (ins : List Value) (ht : TypedL [.int .i64, .int .i64, .int .i64, .int .i64, .int .i64, .int .i64, .int .i64] ins) (hp : G_l2Sum.pre ins) : F_l2Sum.pre ins ∧ F_l2Sum.out ins = G_l2Sum.out ins := by
  obtain ⟨a, r1, rfl, w1, ht1⟩ := int_cons ht
  obtain ⟨b, c, s, x, y, z, rfl, _⟩ := ints6 ht1
  have hs : s = 1 ∨ s = -1 := hp
  clear hp
  cases h : validI a b c
  · rcases hs with rfl | rfl <;>
    · simp only [F_l2Sum, G_l2Sum, tr_l2Sum, Fs_l2Sum, G_sFracValid, G_l2Low, addQ, lessQ, validQ, q3, arI, h, ofTree, okT, okE, evalT, evalE, evsIn, ev, callF, preF, hasF, needs, i0, b0, toI_int, toB_bool, List.getD_cons_zero, List.getD_cons_succ, List.cons_append, List.nil_append, List.replicate, if_true, if_false, Bool.false_eq_true, and_true, true_and, implies_true, forall_const, false_implies, cmpI, Bool.not_true, Bool.not_false, Bool.true_and, Bool.false_and, Bool.and_true, Bool.and_false, reduceIte, List.append_nil, reduceCtorEq]
      simp [fr4, zq]
  · cases k : validI x y z
    · rcases hs with rfl | rfl <;>
      · simp only [F_l2Sum, G_l2Sum, tr_l2Sum, Fs_l2Sum, G_sFracValid, G_l2Low, addQ, lessQ, validQ, q3, arI, h, k, ofTree, okT, okE, evalT, evalE, evsIn, ev, callF, preF, hasF, needs, i0, b0, toI_int, toB_bool, List.getD_cons_zero, List.getD_cons_succ, List.cons_append, List.nil_append, List.replicate, if_true, if_false, Bool.false_eq_true, and_true, true_and, implies_true, forall_const, false_implies, cmpI, Bool.not_true, Bool.not_false, Bool.true_and, Bool.false_and, Bool.and_true, Bool.and_false, reduceIte, List.append_nil, reduceCtorEq]
        simp [fr4, zq]
    · obtain ⟨e1, e2, e3, e4, e5, e6, e7, e8, e9, l1, l2⟩ := sum_facts h k
      obtain ⟨k1, k2, _⟩ := valid_bounds k
      rcases hs with rfl | rfl
      · have u1 : IntKind.i64.wrap (1 * x) = x := by rw [Int.one_mul]; exact wrap_in (by omega)
        have u2 : IntKind.i64.wrap (1 * y) = y := by rw [Int.one_mul]; exact wrap_in (by omega)
        simp only [F_l2Sum, G_l2Sum, tr_l2Sum, Fs_l2Sum, G_sFracValid, G_l2Low, addQ, lessQ, validQ, q3, arI, h, k, u1, u2, e1, e2, e3, e4, e5, e6, e7, ofTree, okT, okE, evalT, evalE, evsIn, ev, callF, preF, hasF, needs, i0, b0, toI_int, toB_bool, List.getD_cons_zero, List.getD_cons_succ, List.cons_append, List.nil_append, List.replicate, if_true, if_false, Bool.false_eq_true, and_true, true_and, implies_true, forall_const, false_implies, cmpI, Bool.not_true, Bool.not_false, Bool.true_and, Bool.false_and, Bool.and_true, Bool.and_false, reduceIte, List.append_nil, reduceCtorEq]
        simp [fr4, l1]
      · have u1 : IntKind.i64.wrap (-1 * x) = -x := by rw [Int.neg_one_mul]; exact wrap_in (by omega)
        have u2 : IntKind.i64.wrap (-1 * y) = -y := by rw [Int.neg_one_mul]; exact wrap_in (by omega)
        have m2 := mulB k1 (b := c) (by have := valid_bounds h; omega)
        have m4 := mulB k2 (b := c) (by have := valid_bounds h; omega)
        have v1 : IntKind.i64.wrap (-x * c) = -(x * c) := by rw [Int.neg_mul]; exact wrap_in (by omega)
        have v2 : IntKind.i64.wrap (-y * c) = -(y * c) := by rw [Int.neg_mul]; exact wrap_in (by omega)
        have v3 : IntKind.i64.wrap (a * z + -(x * c)) = a * z - x * c := by rw [← Int.sub_eq_add_neg]; exact e8
        have v4 : IntKind.i64.wrap (b * z + -(y * c)) = b * z - y * c := by rw [← Int.sub_eq_add_neg]; exact e9
        simp only [F_l2Sum, G_l2Sum, tr_l2Sum, Fs_l2Sum, G_sFracValid, G_l2Low, addQ, lessQ, validQ, q3, arI, h, k, u1, u2, v1, v2, v3, v4, e1, e3, e5, ofTree, okT, okE, evalT, evalE, evsIn, ev, callF, preF, hasF, needs, i0, b0, toI_int, toB_bool, List.getD_cons_zero, List.getD_cons_succ, List.cons_append, List.nil_append, List.replicate, if_true, if_false, Bool.false_eq_true, and_true, true_and, implies_true, forall_const, false_implies, cmpI, Bool.not_true, Bool.not_false, Bool.true_and, Bool.false_and, Bool.and_true, Bool.and_false, reduceIte, List.append_nil, reduceCtorEq]
        simp [fr4, l2]

def tr_sFracTimes : Tr :=
  (.evs [.call 0 [(.var 0), (.var 1), (.var 2)] none 1,
    .call 0 [(.var 3), (.var 4), (.var 5)] (some (.not (.not (.var 6)))) 1]
  (.ite (.ite (.not (.var 6)) (.bool true) (.not (.var 7)))
  (.ret [(.int .i64 0), (.int .i64 0), (.int .i64 0), (.bool false)])
  (.evs [.call 1 [(.ar .sub .i64 (.ar .mul .i64 (.var 0) (.var 3)) (.ar .mul .i64 (.var 1) (.var 4))), (.ar .add .i64 (.ar .mul .i64 (.var 0) (.var 4)) (.ar .mul .i64 (.var 1) (.var 3))), (.ar .mul .i64 (.var 2) (.var 5))] none 4]
   (.ret [(.var 8), (.var 9), (.var 10), (.var 11)]))))
def Fs_sFracTimes : List Fun1 := [G_sFracValid, G_l2Low]
def F_sFracTimes : Fun1 := ofTree Fs_sFracTimes tr_sFracTimes
def G_sFracTimes : Fun1 := ⟨fun _ => True, fun ins => fr4 (timesQ (q3 ins 0) (q3 ins 3))⟩
theorem as_sFracTimes (ins : List Value) (ht : TypedL [.int .i64, .int .i64, .int .i64, .int .i64, .int .i64, .int .i64] ins) (_ : G_sFracTimes.pre ins) : F_sFracTimes.pre ins ∧ F_sFracTimes.out ins = G_sFracTimes.out ins := by
  obtain ⟨a, b, c, x, y, z, rfl, _⟩ := ints6 ht
  simp only [F_sFracTimes, G_sFracTimes, tr_sFracTimes, Fs_sFracTimes, G_sFracValid, G_l2Low, timesQ, validQ, q3, arI, ofTree, okT, okE, evalT, evalE, evsIn, ev, callF, preF, hasF, needs, i0, b0, toI_int, toB_bool, List.getD_cons_zero, List.getD_cons_succ, List.cons_append, List.nil_append, List.replicate, if_true, if_false, Bool.false_eq_true, and_true, true_and, implies_true, forall_const, false_implies, cmpI, Bool.not_true, Bool.not_false, Bool.true_and, Bool.false_and, Bool.and_true, Bool.and_false, reduceIte, List.append_nil, reduceCtorEq]
  cases h : validI a b c
  · simp [h, fr4, zq]
  · cases k : validI x y z
    · simp [h, k, fr4, zq]
    · obtain ⟨e1, e2, e3, e4, e5, e6, e7, l1⟩ := mul_facts h k
      simp only [h, k, e1, e2, e3, e4, e5, e6, e7, ofTree, okT, okE, evalT, evalE, evsIn, ev, callF, preF, hasF, needs, i0, b0, toI_int, toB_bool, List.getD_cons_zero, List.getD_cons_succ, List.cons_append, List.nil_append, List.replicate, if_true, if_false, Bool.false_eq_true, and_true, true_and, implies_true, forall_const, false_implies, cmpI, Bool.not_true, Bool.not_false, Bool.true_and, Bool.false_and, Bool.and_true, Bool.and_false, reduceIte, List.append_nil, reduceCtorEq]
      simp [fr4, l1]

def tr_keep : Tr :=
  (.ite (.not (.var 3))
  (.ret [(.int .i64 0), (.int .i64 0), (.int .i64 0), (.bool true)])
  (.ret [(.var 0), (.var 1), (.var 2), (.var 4)]))
def Fs_keep : List Fun1 := []
def F_keep : Fun1 := ofTree Fs_keep tr_keep

def tr_add : Tr :=
  (.evs [.call 0 [(.var 0), (.var 1), (.var 2), (.var 3), (.var 4), (.var 5)] none 4,
    .call 1 [(.var 7), (.var 8), (.var 9), (.var 10), (.var 6)] none 4]
  (.ret [(.var 11), (.var 12), (.var 13), (.var 14)]))
def Fs_add : List Fun1 := [G_iFracAdd, F_keep]
def F_add : Fun1 := ofTree Fs_add tr_add
def G_add : Fun1 := ⟨fun _ => True, fun ins => fr3 (addQ (q3 ins 0) (q3 ins 3)) ++ [.bool (b0 ins 6 || !(addQ (q3 ins 0) (q3 ins 3)).isSome)]⟩
theorem as_add (ins : List Value) (ht : TypedL [.int .i64, .int .i64, .int .i64, .int .i64, .int .i64, .int .i64, .bool] ins) (_ : G_add.pre ins) : F_add.pre ins ∧ F_add.out ins = G_add.out ins := by
  obtain ⟨a, r1, rfl, _, ht1⟩ := int_cons ht
  obtain ⟨b, r2, rfl, _, ht2⟩ := int_cons ht1
  obtain ⟨c, r3, rfl, _, ht3⟩ := int_cons ht2
  obtain ⟨x, r4, rfl, _, ht4⟩ := int_cons ht3
  obtain ⟨y, r5, rfl, _, ht5⟩ := int_cons ht4
  obtain ⟨z, r6, rfl, _, ht6⟩ := int_cons ht5
  obtain ⟨t, r7, rfl, ht7⟩ := bool_cons ht6
  obtain rfl := ints0 ht7
  simp only [F_add, G_add, tr_add, Fs_add, G_iFracAdd, F_keep, tr_keep, Fs_keep, q3, fr4, fr3, ofTree, okT, okE, evalT, evalE, evsIn, ev, callF, preF, hasF, needs, i0, b0, toI_int, toB_bool, List.getD_cons_zero, List.getD_cons_succ, List.cons_append, List.nil_append, List.replicate, if_true, if_false, Bool.false_eq_true, and_true, true_and, implies_true, forall_const, false_implies, cmpI, Bool.not_true, Bool.not_false, Bool.true_and, Bool.false_and, Bool.and_true, Bool.and_false, reduceIte, List.append_nil, reduceCtorEq]
  cases h : addQ (a, b, c) (x, y, z) <;> simp [zq]

def tr_times : Tr :=
  (.evs [.call 0 [(.var 0), (.var 1), (.var 2), (.var 3), (.var 4), (.var 5)] none 4,
    .call 1 [(.var 7), (.var 8), (.var 9), (.var 10), (.var 6)] none 4]
  (.ret [(.var 11), (.var 12), (.var 13), (.var 14)]))
def Fs_times : List Fun1 := [G_iFracTimes, F_keep]
def F_times : Fun1 := ofTree Fs_times tr_times
def G_times : Fun1 := ⟨fun _ => True, fun ins => fr3 (timesQ (q3 ins 0) (q3 ins 3)) ++ [.bool (b0 ins 6 || !(timesQ (q3 ins 0) (q3 ins 3)).isSome)]⟩
theorem as_times (ins : List Value) (ht : TypedL [.int .i64, .int .i64, .int .i64, .int .i64, .int .i64, .int .i64, .bool] ins) (_ : G_times.pre ins) : F_times.pre ins ∧ F_times.out ins = G_times.out ins := by
  obtain ⟨a, r1, rfl, _, ht1⟩ := int_cons ht
  obtain ⟨b, r2, rfl, _, ht2⟩ := int_cons ht1
  obtain ⟨c, r3, rfl, _, ht3⟩ := int_cons ht2
  obtain ⟨x, r4, rfl, _, ht4⟩ := int_cons ht3
  obtain ⟨y, r5, rfl, _, ht5⟩ := int_cons ht4
  obtain ⟨z, r6, rfl, _, ht6⟩ := int_cons ht5
  obtain ⟨t, r7, rfl, ht7⟩ := bool_cons ht6
  obtain rfl := ints0 ht7
  simp only [F_times, G_times, tr_times, Fs_times, G_iFracTimes, F_keep, tr_keep, Fs_keep, q3, fr4, fr3, ofTree, okT, okE, evalT, evalE, evsIn, ev, callF, preF, hasF, needs, i0, b0, toI_int, toB_bool, List.getD_cons_zero, List.getD_cons_succ, List.cons_append, List.nil_append, List.replicate, if_true, if_false, Bool.false_eq_true, and_true, true_and, implies_true, forall_const, false_implies, cmpI, Bool.not_true, Bool.not_false, Bool.true_and, Bool.false_and, Bool.and_true, Bool.and_false, reduceIte, List.append_nil, reduceCtorEq]
  cases h : timesQ (a, b, c) (x, y, z) <;> simp [zq]

def tr_need : Tr :=
  (.ite (.not (.var 0))
  (.ret [(.bool true)])
  (.ret [(.var 1)]))
def Fs_need : List Fun1 := []
def F_need : Fun1 := ofTree Fs_need tr_need
def G_need : Fun1 := ⟨fun _ => True, fun ins => [.bool (b0 ins 1 || !b0 ins 0)]⟩
theorem as_need (ins : List Value) (ht : TypedL [.bool, .bool] ins) (_ : G_need.pre ins) : F_need.pre ins ∧ F_need.out ins = G_need.out ins := by
  obtain ⟨s, r1, rfl, ht1⟩ := bool_cons ht
  obtain ⟨t, r2, rfl, ht2⟩ := bool_cons ht1
  obtain rfl := ints0 ht2
  simp only [F_need, G_need, tr_need, Fs_need, ofTree, okT, okE, evalT, evalE, evsIn, ev, callF, preF, hasF, needs, i0, b0, toI_int, toB_bool, List.getD_cons_zero, List.getD_cons_succ, List.cons_append, List.nil_append, List.replicate, if_true, if_false, Bool.false_eq_true, and_true, true_and, implies_true, forall_const, false_implies, cmpI, Bool.not_true, Bool.not_false, Bool.true_and, Bool.false_and, Bool.and_true, Bool.and_false, reduceIte, List.append_nil, reduceCtorEq]
  cases s <;> cases t <;> simp

def tr_l6tAdd : Tr :=
  (.evs [.call 0 [(.var 0), (.var 1), (.var 2), (.var 3), (.var 4), (.var 5), (.var 6)] none 4]
  (.ret [(.var 8), (.var 9), (.var 10), (.ite (.var 7) (.var 11) (.bool false))]))
def Fs_l6tAdd : List Fun1 := [G_l2Sum]
def F_l6tAdd : Fun1 := ofTree Fs_l6tAdd tr_l6tAdd
def signQ (s : Int) (a b : Q) : Option Q := if s = 1 then addQ a b else lessQ a b
def G_l6tAdd : Fun1 := ⟨fun ins => i0 ins 3 = 1 ∨ i0 ins 3 = -1, fun ins => fr3 (signQ (i0 ins 3) (q3 ins 0) (q3 ins 4)) ++ [.bool (b0 ins 7 && (signQ (i0 ins 3) (q3 ins 0) (q3 ins 4)).isSome)]⟩
theorem as_l6tAdd (ins : List Value) (ht : TypedL [.int .i64, .int .i64, .int .i64, .int .i64, .int .i64, .int .i64, .int .i64, .bool] ins) (hp : G_l6tAdd.pre ins) : F_l6tAdd.pre ins ∧ F_l6tAdd.out ins = G_l6tAdd.out ins := by
  obtain ⟨a, r1, rfl, _, ht1⟩ := int_cons ht
  obtain ⟨b, r2, rfl, _, ht2⟩ := int_cons ht1
  obtain ⟨c, r3, rfl, _, ht3⟩ := int_cons ht2
  obtain ⟨s, r4, rfl, _, ht4⟩ := int_cons ht3
  obtain ⟨x, r5, rfl, _, ht5⟩ := int_cons ht4
  obtain ⟨y, r6, rfl, _, ht6⟩ := int_cons ht5
  obtain ⟨z, r7, rfl, _, ht7⟩ := int_cons ht6
  obtain ⟨t, r8, rfl, ht8⟩ := bool_cons ht7
  obtain rfl := ints0 ht8
  have hp : s = 1 ∨ s = -1 := hp
  refine ⟨⟨⟨hp, trivial⟩, trivial⟩, ?_⟩
  simp only [F_l6tAdd, G_l6tAdd, tr_l6tAdd, Fs_l6tAdd, G_l2Sum, signQ, q3, fr4, fr3, ofTree, okT, okE, evalT, evalE, evsIn, ev, callF, preF, hasF, needs, i0, b0, toI_int, toB_bool, List.getD_cons_zero, List.getD_cons_succ, List.cons_append, List.nil_append, List.replicate, if_true, if_false, Bool.false_eq_true, and_true, true_and, implies_true, forall_const, false_implies, cmpI, Bool.not_true, Bool.not_false, Bool.true_and, Bool.false_and, Bool.and_true, Bool.and_false, reduceIte, List.append_nil, reduceCtorEq]
  cases t <;> simp

def tr_toFrac : Tr :=
  (.ret [(.var 0), (.var 1), (.var 2)])
def Fs_toFrac : List Fun1 := []
def F_toFrac : Fun1 := ofTree Fs_toFrac tr_toFrac

def tr_eqFrac : Tr :=
  (.ite (.cmp .neq (.var 0) (.var 3))
  (.ret [(.bool false)])
  (.ite (.cmp .neq (.var 1) (.var 4))
   (.ret [(.bool false)])
   (.ite (.cmp .neq (.var 2) (.var 5))
    (.ret [(.bool false)])
    (.ret [(.bool true)]))))
def Fs_eqFrac : List Fun1 := []
def F_eqFrac : Fun1 := ofTree Fs_eqFrac tr_eqFrac
def eqQ (a b : Q) : Bool := a.1 == b.1 && (a.2.1 == b.2.1 && a.2.2 == b.2.2)
def G_eqFrac : Fun1 := ⟨fun _ => True, fun ins => [.bool (eqQ (q3 ins 0) (q3 ins 3))]⟩
theorem as_eqFrac (ins : List Value) (ht : TypedL [.int .i64, .int .i64, .int .i64, .int .i64, .int .i64, .int .i64] ins) (_ : G_eqFrac.pre ins) : F_eqFrac.pre ins ∧ F_eqFrac.out ins = G_eqFrac.out ins := by
  obtain ⟨a, b, c, x, y, z, rfl, _⟩ := ints6 ht
  refine ⟨okT_free (fun F hF => by cases hF) _ _ (by kernel_rfl), ?_⟩
  simp only [F_eqFrac, G_eqFrac, tr_eqFrac, Fs_eqFrac, eqQ, q3, ofTree, okT, okE, evalT, evalE, evsIn, ev, callF, preF, hasF, needs, i0, b0, toI_int, toB_bool, List.getD_cons_zero, List.getD_cons_succ, List.cons_append, List.nil_append, List.replicate, if_true, if_false, Bool.false_eq_true, and_true, true_and, implies_true, forall_const, false_implies, cmpI, Bool.not_true, Bool.not_false, Bool.true_and, Bool.false_and, Bool.and_true, Bool.and_false, reduceIte, List.append_nil, reduceCtorEq]
  cases h1 : (a == x) <;> cases h2 : (b == y) <;> cases h3 : (c == z) <;> simp [bne, h1, h2, h3]
theorem eqQ_self (a : Q) : eqQ a a = true := by simp [eqQ]

def tr_toFracA16 : Tr :=
  (.evs [.call 0 [(.var 0), (.var 1), (.var 2)] none 3]
  (.evs [.call 0 [(.var 3), (.var 4), (.var 5)] none 3]
  (.evs [.call 0 [(.var 6), (.var 7), (.var 8)] none 3]
  (.evs [.call 0 [(.var 9), (.var 10), (.var 11)] none 3]
  (.evs [.call 0 [(.var 12), (.var 13), (.var 14)] none 3]
  (.evs [.call 0 [(.var 15), (.var 16), (.var 17)] none 3]
  (.evs [.call 0 [(.var 18), (.var 19), (.var 20)] none 3]
  (.evs [.call 0 [(.var 21), (.var 22), (.var 23)] none 3]
  (.evs [.call 0 [(.var 24), (.var 25), (.var 26)] none 3]
  (.evs [.call 0 [(.var 27), (.var 28), (.var 29)] none 3]
  (.evs [.call 0 [(.var 30), (.var 31), (.var 32)] none 3]
  (.evs [.call 0 [(.var 33), (.var 34), (.var 35)] none 3]
  (.evs [.call 0 [(.var 36), (.var 37), (.var 38)] none 3]
  (.evs [.call 0 [(.var 39), (.var 40), (.var 41)] none 3]
  (.evs [.call 0 [(.var 42), (.var 43), (.var 44)] none 3]
  (.evs [.call 0 [(.var 45), (.var 46), (.var 47)] none 3]
  (.ret [(.var 48), (.var 49), (.var 50), (.var 51), (.var 52), (.var 53), (.var 54), (.var 55), (.var 56), (.var 57), (.var 58), (.var 59), (.var 60), (.var 61), (.var 62), (.var 63), (.var 64), (.var 65), (.var 66), (.var 67), (.var 68), (.var 69), (.var 70), (.var 71), (.var 72), (.var 73), (.var 74), (.var 75), (.var 76), (.var 77), (.var 78), (.var 79), (.var 80), (.var 81), (.var 82), (.var 83), (.var 84), (.var 85), (.var 86), (.var 87), (.var 88), (.var 89), (.var 90), (.var 91), (.var 92), (.var 93), (.var 94), (.var 95)])))))))))))))))))
def Fs_toFracA16 : List Fun1 := [F_toFrac]
def F_toFracA16 : Fun1 := ofTree Fs_toFracA16 tr_toFracA16

def tr_toTable : Tr :=
  (.evs [.call 0 [(.var 0), (.var 1), (.var 2), (.var 3), (.var 4), (.var 5), (.var 6), (.var 7), (.var 8), (.var 9), (.var 10), (.var 11), (.var 12), (.var 13), (.var 14), (.var 15), (.var 16), (.var 17), (.var 18), (.var 19), (.var 20), (.var 21), (.var 22), (.var 23), (.var 24), (.var 25), (.var 26), (.var 27), (.var 28), (.var 29), (.var 30), (.var 31), (.var 32), (.var 33), (.var 34), (.var 35), (.var 36), (.var 37), (.var 38), (.var 39), (.var 40), (.var 41), (.var 42), (.var 43), (.var 44), (.var 45), (.var 46), (.var 47)] none 48]
  (.ret [(.var 48), (.var 49), (.var 50), (.var 51), (.var 52), (.var 53), (.var 54), (.var 55), (.var 56), (.var 57), (.var 58), (.var 59), (.var 60), (.var 61), (.var 62), (.var 63), (.var 64), (.var 65), (.var 66), (.var 67), (.var 68), (.var 69), (.var 70), (.var 71), (.var 72), (.var 73), (.var 74), (.var 75), (.var 76), (.var 77), (.var 78), (.var 79), (.var 80), (.var 81), (.var 82), (.var 83), (.var 84), (.var 85), (.var 86), (.var 87), (.var 88), (.var 89), (.var 90), (.var 91), (.var 92), (.var 93), (.var 94), (.var 95)]))
def Fs_toTable : List Fun1 := [F_toFracA16]
def F_toTable : Fun1 := ofTree Fs_toTable tr_toTable
def G_toTable : Fun1 := ⟨fun _ => True, fun ins => copyV ins 0 48⟩
theorem out_toTable : (fun (g : Nat → Int) => F_toTable.out (ivs g 0 48)) = fun g => G_toTable.out (ivs g 0 48) := by kernel_rfl
theorem pre_toFracA16 (ins : List Value) : F_toFracA16.pre ins :=
  okT_free (by intro F hF ins; simp only [Fs_toFracA16, List.mem_singleton] at hF; rw [hF]; exact okT_free (fun F hF => by cases hF) _ _ (by kernel_rfl)) _ _ (by kernel_rfl)
theorem as_toTable (ins : List Value) (ht : TypedL (intTs 48 ++ []) ins) (_ : G_toTable.pre ins) : F_toTable.pre ins ∧ F_toTable.out ins = G_toTable.out ins := by
  obtain ⟨g, r, rfl, h1, _⟩ := ints_lit 48 0 ht
  obtain rfl := ints0 h1
  rw [List.append_nil]
  exact ⟨okT_free (by intro F hF ins; simp only [Fs_toTable, List.mem_singleton] at hF; rw [hF]; exact pre_toFracA16 ins) _ _ (by kernel_rfl), congrFun out_toTable g⟩

def tr_iTableValid : Tr :=
  (.evs [.call 0 [(.var 0), (.var 1), (.var 2)] none 1]
  (.ite (.not (.var 48))
  (.ret [(.bool false)])
  (.evs [.call 0 [(.var 3), (.var 4), (.var 5)] none 1]
   (.ite (.not (.var 49))
   (.ret [(.bool false)])
   (.evs [.call 0 [(.var 6), (.var 7), (.var 8)] none 1]
    (.ite (.not (.var 50))
    (.ret [(.bool false)])
    (.evs [.call 0 [(.var 9), (.var 10), (.var 11)] none 1]
     (.ite (.not (.var 51))
     (.ret [(.bool false)])
     (.evs [.call 0 [(.var 12), (.var 13), (.var 14)] none 1]
      (.ite (.not (.var 52))
      (.ret [(.bool false)])
      (.evs [.call 0 [(.var 15), (.var 16), (.var 17)] none 1]
       (.ite (.not (.var 53))
       (.ret [(.bool false)])
       (.evs [.call 0 [(.var 18), (.var 19), (.var 20)] none 1]
        (.ite (.not (.var 54))
        (.ret [(.bool false)])
        (.evs [.call 0 [(.var 21), (.var 22), (.var 23)] none 1]
         (.ite (.not (.var 55))
         (.ret [(.bool false)])
         (.evs [.call 0 [(.var 24), (.var 25), (.var 26)] none 1]
          (.ite (.not (.var 56))
          (.ret [(.bool false)])
          (.evs [.call 0 [(.var 27), (.var 28), (.var 29)] none 1]
           (.ite (.not (.var 57))
           (.ret [(.bool false)])
           (.evs [.call 0 [(.var 30), (.var 31), (.var 32)] none 1]
            (.ite (.not (.var 58))
            (.ret [(.bool false)])
            (.evs [.call 0 [(.var 33), (.var 34), (.var 35)] none 1]
             (.ite (.not (.var 59))
             (.ret [(.bool false)])
             (.evs [.call 0 [(.var 36), (.var 37), (.var 38)] none 1]
              (.ite (.not (.var 60))
              (.ret [(.bool false)])
              (.evs [.call 0 [(.var 39), (.var 40), (.var 41)] none 1]
               (.ite (.not (.var 61))
               (.ret [(.bool false)])
               (.evs [.call 0 [(.var 42), (.var 43), (.var 44)] none 1]
                (.ite (.not (.var 62))
                (.ret [(.bool false)])
                (.evs [.call 0 [(.var 45), (.var 46), (.var 47)] none 1]
                 (.ite (.not (.var 63))
                 (.ret [(.bool false)])
                 (.ret [(.bool true)])))))))))))))))))))))))))))))))))
def Fs_iTableValid : List Fun1 := [G_realOk]
def F_iTableValid : Fun1 := ofTree Fs_iTableValid tr_iTableValid
def G_iTableValid : Fun1 := ⟨fun _ => True, fun ins => [.bool (tabQ fun k => q3 ins (3 * k))]⟩
theorem out_iTableValid : (fun (g : Nat → Int) => F_iTableValid.out (ivs g 0 48)) = fun g => nestC (fun k => .bool (!realQ (q3 (ivs g 0 48) (3 * k)))) 0 16 := by kernel_rfl
theorem as_iTableValid (ins : List Value) (ht : TypedL (intTs 48 ++ []) ins) (_ : G_iTableValid.pre ins) : F_iTableValid.pre ins ∧ F_iTableValid.out ins = G_iTableValid.out ins := by
  obtain ⟨g, r, rfl, h1, _⟩ := ints_lit 48 0 ht
  obtain rfl := ints0 h1
  rw [List.append_nil]
  refine ⟨okT_free (by intro F hF ins; simp only [Fs_iTableValid, List.mem_singleton] at hF; rw [hF]; trivial) _ _ (by kernel_rfl), (congrFun out_iTableValid g).trans ?_⟩
  exact nestC_eq (fun k => rfl) 16 0

def tr_sTableValid : Tr :=
  (.evs [.call 0 [(.var 0), (.var 1), (.var 2)] none 1]
  (.ite (.ite (.not (.var 48)) (.bool true) (.cmp .neq (.var 1) (.int .i64 0)))
  (.ret [(.bool false)])
  (.evs [.call 0 [(.var 3), (.var 4), (.var 5)] none 1]
   (.ite (.ite (.not (.var 49)) (.bool true) (.cmp .neq (.var 4) (.int .i64 0)))
   (.ret [(.bool false)])
   (.evs [.call 0 [(.var 6), (.var 7), (.var 8)] none 1]
    (.ite (.ite (.not (.var 50)) (.bool true) (.cmp .neq (.var 7) (.int .i64 0)))
    (.ret [(.bool false)])
    (.evs [.call 0 [(.var 9), (.var 10), (.var 11)] none 1]
     (.ite (.ite (.not (.var 51)) (.bool true) (.cmp .neq (.var 10) (.int .i64 0)))
     (.ret [(.bool false)])
     (.evs [.call 0 [(.var 12), (.var 13), (.var 14)] none 1]
      (.ite (.ite (.not (.var 52)) (.bool true) (.cmp .neq (.var 13) (.int .i64 0)))
      (.ret [(.bool false)])
      (.evs [.call 0 [(.var 15), (.var 16), (.var 17)] none 1]
       (.ite (.ite (.not (.var 53)) (.bool true) (.cmp .neq (.var 16) (.int .i64 0)))
       (.ret [(.bool false)])
       (.evs [.call 0 [(.var 18), (.var 19), (.var 20)] none 1]
        (.ite (.ite (.not (.var 54)) (.bool true) (.cmp .neq (.var 19) (.int .i64 0)))
        (.ret [(.bool false)])
        (.evs [.call 0 [(.var 21), (.var 22), (.var 23)] none 1]
         (.ite (.ite (.not (.var 55)) (.bool true) (.cmp .neq (.var 22) (.int .i64 0)))
         (.ret [(.bool false)])
         (.evs [.call 0 [(.var 24), (.var 25), (.var 26)] none 1]
          (.ite (.ite (.not (.var 56)) (.bool true) (.cmp .neq (.var 25) (.int .i64 0)))
          (.ret [(.bool false)])
          (.evs [.call 0 [(.var 27), (.var 28), (.var 29)] none 1]
           (.ite (.ite (.not (.var 57)) (.bool true) (.cmp .neq (.var 28) (.int .i64 0)))
           (.ret [(.bool false)])
           (.evs [.call 0 [(.var 30), (.var 31), (.var 32)] none 1]
            (.ite (.ite (.not (.var 58)) (.bool true) (.cmp .neq (.var 31) (.int .i64 0)))
            (.ret [(.bool false)])
            (.evs [.call 0 [(.var 33), (.var 34), (.var 35)] none 1]
             (.ite (.ite (.not (.var 59)) (.bool true) (.cmp .neq (.var 34) (.int .i64 0)))
             (.ret [(.bool false)])
             (.evs [.call 0 [(.var 36), (.var 37), (.var 38)] none 1]
              (.ite (.ite (.not (.var 60)) (.bool true) (.cmp .neq (.var 37) (.int .i64 0)))
              (.ret [(.bool false)])
              (.evs [.call 0 [(.var 39), (.var 40), (.var 41)] none 1]
               (.ite (.ite (.not (.var 61)) (.bool true) (.cmp .neq (.var 40) (.int .i64 0)))
               (.ret [(.bool false)])
               (.evs [.call 0 [(.var 42), (.var 43), (.var 44)] none 1]
                (.ite (.ite (.not (.var 62)) (.bool true) (.cmp .neq (.var 43) (.int .i64 0)))
                (.ret [(.bool false)])
                (.evs [.call 0 [(.var 45), (.var 46), (.var 47)] none 1]
                 (.ite (.ite (.not (.var 63)) (.bool true) (.cmp .neq (.var 46) (.int .i64 0)))
                 (.ret [(.bool false)])
                 (.ret [(.bool true)])))))))))))))))))))))))))))))))))
def Fs_sTableValid : List Fun1 := [G_sFracValid]
def F_sTableValid : Fun1 := ofTree Fs_sTableValid tr_sTableValid
def G_sTableValid : Fun1 := ⟨fun _ => True, fun ins => [.bool (allB (fun k => realQ (q3 ins (3 * k))) 0 16)]⟩
theorem out_sTableValid : (fun (g : Nat → Int) => F_sTableValid.out (ivs g 0 48)) = fun g => nestC (fun k => if toB (.bool (!validQ (q3 (ivs g 0 48) (3 * k)))) = true then .bool true else .bool (i0 (ivs g 0 48) (3 * k + 1) != 0)) 0 16 := by kernel_rfl
theorem as_sTableValid (ins : List Value) (ht : TypedL (intTs 48 ++ []) ins) (_ : G_sTableValid.pre ins) : F_sTableValid.pre ins ∧ F_sTableValid.out ins = G_sTableValid.out ins := by
  obtain ⟨g, r, rfl, h1, _⟩ := ints_lit 48 0 ht
  obtain rfl := ints0 h1
  rw [List.append_nil]
  refine ⟨okT_free (by intro F hF ins; simp only [Fs_sTableValid, List.mem_singleton] at hF; rw [hF]; trivial) _ _ (by kernel_rfl), (congrFun out_sTableValid g).trans ?_⟩
  refine nestC_eq (fun k => ?_) 16 0
  simp only [toB_bool, realQ, q3]
  by_cases h : validQ (i0 (ivs g 0 48) (3 * k), i0 (ivs g 0 48) (3 * k + 1), i0 (ivs g 0 48) (3 * k + 2)) = true <;> simp [bne, h]

def tr_l6tOf0 : Tr :=
  (.ret [(.var 0), (.var 1), (.var 2), (.var 3), (.var 4), (.var 5), (.var 6), (.var 7), (.var 8), (.var 9), (.var 10), (.var 11)])
def Fs_l6tOf0 : List Fun1 := []
def F_l6tOf0 : Fun1 := ofTree Fs_l6tOf0 tr_l6tOf0

def tr_l6tOf1 : Tr :=
  (.ret [(.var 12), (.var 13), (.var 14), (.var 15), (.var 16), (.var 17), (.var 18), (.var 19), (.var 20), (.var 21), (.var 22), (.var 23)])
def Fs_l6tOf1 : List Fun1 := []
def F_l6tOf1 : Fun1 := ofTree Fs_l6tOf1 tr_l6tOf1

def tr_l6tOf2 : Tr :=
  (.ret [(.var 24), (.var 25), (.var 26), (.var 27), (.var 28), (.var 29), (.var 30), (.var 31), (.var 32), (.var 33), (.var 34), (.var 35)])
def Fs_l6tOf2 : List Fun1 := []
def F_l6tOf2 : Fun1 := ofTree Fs_l6tOf2 tr_l6tOf2

def tr_l6tOf3 : Tr :=
  (.ret [(.var 36), (.var 37), (.var 38), (.var 39), (.var 40), (.var 41), (.var 42), (.var 43), (.var 44), (.var 45), (.var 46), (.var 47)])
def Fs_l6tOf3 : List Fun1 := []
def F_l6tOf3 : Fun1 := ofTree Fs_l6tOf3 tr_l6tOf3

def tr_l6tRow : Tr :=
  (.evs [.call 0 [(.var 0), (.var 1), (.var 2), (.var 12), (.var 13), (.var 14)] none 4]
  (.evs [.call 1 [(.int .i64 0), (.int .i64 0), (.int .i64 1), (.int .i64 1), (.var 25), (.var 26), (.var 27), (.ite (.var 24) (.var 28) (.bool false))] none 4]
  (.evs [.call 0 [(.var 3), (.var 4), (.var 5), (.var 15), (.var 16), (.var 17)] none 4]
  (.evs [.call 1 [(.var 29), (.var 30), (.var 31), (.int .i64 1), (.var 33), (.var 34), (.var 35), (.ite (.var 32) (.var 36) (.bool false))] none 4]
  (.evs [.call 0 [(.var 6), (.var 7), (.var 8), (.var 18), (.var 19), (.var 20)] none 4]
  (.evs [.call 1 [(.var 37), (.var 38), (.var 39), (.int .i64 1), (.var 41), (.var 42), (.var 43), (.ite (.var 40) (.var 44) (.bool false))] none 4]
  (.evs [.call 0 [(.var 9), (.var 10), (.var 11), (.var 21), (.var 22), (.var 23)] none 4]
  (.evs [.call 1 [(.var 45), (.var 46), (.var 47), (.int .i64 1), (.var 49), (.var 50), (.var 51), (.ite (.var 48) (.var 52) (.bool false))] none 4]
  (.ret [(.var 53), (.var 54), (.var 55), (.var 56)])))))))))
def Fs_l6tRow : List Fun1 := [G_sFracTimes, G_l6tAdd]
def F_l6tRow : Fun1 := ofTree Fs_l6tRow tr_l6tRow
def G_l6tRow : Fun1 := ⟨fun _ => True, fun ins => fl3 [(cellS' (fun k => q3 ins (3 * k)) (fun k => q3 ins (12 + 3 * k)) (b0 ins 24)).1] ++ [.bool (cellS' (fun k => q3 ins (3 * k)) (fun k => q3 ins (12 + 3 * k)) (b0 ins 24)).2]⟩
theorem out_l6tRow : (fun (g : Nat → Int) (s : Bool) => F_l6tRow.out (ivs g 0 24 ++ [.bool s])) = fun g s => G_l6tRow.out (ivs g 0 24 ++ [.bool s]) := by kernel_rfl
theorem as_l6tRow (ins : List Value) (ht : TypedL (intTs 24 ++ [.bool]) ins) (_ : G_l6tRow.pre ins) : F_l6tRow.pre ins ∧ F_l6tRow.out ins = G_l6tRow.out ins := by
  obtain ⟨g, r, rfl, h1, _⟩ := ints_lit 24 0 ht
  obtain ⟨s, r2, rfl, h2⟩ := bool_cons h1
  obtain rfl := ints0 h2
  refine ⟨?_, congrFun (congrFun out_l6tRow g) s⟩
  exact ⟨⟨trivial, trivial⟩, ⟨.inl rfl, trivial⟩, ⟨trivial, trivial⟩, ⟨.inl rfl, trivial⟩, ⟨trivial, trivial⟩, ⟨.inl rfl, trivial⟩, ⟨trivial, trivial⟩, ⟨.inl rfl, trivial⟩, trivial⟩

def tr_gotStokes : Tr :=
  (.ite (.var 12)
  (.ret [(.int .i64 0), (.int .i64 0), (.int .i64 0), (.int .i64 0), (.int .i64 0), (.int .i64 0), (.int .i64 0), (.int .i64 0), (.int .i64 0), (.int .i64 0), (.int .i64 0), (.int .i64 0), (.bool false), (.var 12)])
  (.ret [(.var 0), (.var 1), (.var 2), (.var 3), (.var 4), (.var 5), (.var 6), (.var 7), (.var 8), (.var 9), (.var 10), (.var 11), (.bool true), (.var 12)]))
def Fs_gotStokes : List Fun1 := []
def F_gotStokes : Fun1 := ofTree Fs_gotStokes tr_gotStokes
def G_gotStokes : Fun1 := ⟨fun _ => True, fun ins => gotV (b0 ins 12) ins 0 12 ++ [.bool (!b0 ins 12), .bool (b0 ins 12)]⟩
theorem out_gotStokes : (fun (g : Nat → Int) => F_gotStokes.out (ivs g 0 12 ++ [.bool true])) = fun g => G_gotStokes.out (ivs g 0 12 ++ [.bool true]) := by kernel_rfl
theorem out_gotStokes' : (fun (g : Nat → Int) => F_gotStokes.out (ivs g 0 12 ++ [.bool false])) = fun g => G_gotStokes.out (ivs g 0 12 ++ [.bool false]) := by kernel_rfl
theorem as_gotStokes (ins : List Value) (ht : TypedL (intTs 12 ++ [.bool]) ins) (_ : G_gotStokes.pre ins) : F_gotStokes.pre ins ∧ F_gotStokes.out ins = G_gotStokes.out ins := by
  obtain ⟨g, r, rfl, h1, _⟩ := ints_lit 12 0 ht
  obtain ⟨b, r2, rfl, h2⟩ := bool_cons h1
  obtain rfl := ints0 h2
  cases b
  · exact ⟨trivial, congrFun out_gotStokes' g⟩
  · exact ⟨trivial, congrFun out_gotStokes g⟩

def tr_iStokesValid : Tr :=
  (.evs [.call 0 [(.var 0), (.var 1), (.var 2)] none 1]
  (.ite (.not (.var 12))
  (.ret [(.bool false)])
  (.evs [.call 0 [(.var 3), (.var 4), (.var 5)] none 1]
   (.ite (.not (.var 13))
   (.ret [(.bool false)])
   (.evs [.call 0 [(.var 6), (.var 7), (.var 8)] none 1]
    (.ite (.not (.var 14))
    (.ret [(.bool false)])
    (.evs [.call 0 [(.var 9), (.var 10), (.var 11)] none 1]
     (.ite (.not (.var 15))
     (.ret [(.bool false)])
     (.ret [(.bool true)])))))))))
def Fs_iStokesValid : List Fun1 := [G_realOk]
def F_iStokesValid : Fun1 := ofTree Fs_iStokesValid tr_iStokesValid
def G_iStokesValid : Fun1 := ⟨fun _ => True, fun ins => [.bool (stQ fun k => q3 ins (3 * k))]⟩
theorem out_iStokesValid : (fun (g : Nat → Int) => F_iStokesValid.out (ivs g 0 12)) = fun g => nestC (fun k => .bool (!realQ (q3 (ivs g 0 12) (3 * k)))) 0 4 := by kernel_rfl
theorem as_iStokesValid (ins : List Value) (ht : TypedL (intTs 12 ++ []) ins) (_ : G_iStokesValid.pre ins) : F_iStokesValid.pre ins ∧ F_iStokesValid.out ins = G_iStokesValid.out ins := by
  obtain ⟨g, r, rfl, h1, _⟩ := ints_lit 12 0 ht
  obtain rfl := ints0 h1
  rw [List.append_nil]
  refine ⟨okT_free (by intro F hF ins; simp only [Fs_iStokesValid, List.mem_singleton] at hF; rw [hF]; trivial) _ _ (by kernel_rfl), (congrFun out_iStokesValid g).trans ?_⟩
  exact nestC_eq (fun k => rfl) 4 0

def tr_sStokesValid : Tr :=
  (.evs [.call 0 [(.var 0), (.var 1), (.var 2)] none 1]
  (.ite (.ite (.not (.var 12)) (.bool true) (.cmp .neq (.var 1) (.int .i64 0)))
  (.ret [(.bool false)])
  (.evs [.call 0 [(.var 3), (.var 4), (.var 5)] none 1]
   (.ite (.ite (.not (.var 13)) (.bool true) (.cmp .neq (.var 4) (.int .i64 0)))
   (.ret [(.bool false)])
   (.evs [.call 0 [(.var 6), (.var 7), (.var 8)] none 1]
    (.ite (.ite (.not (.var 14)) (.bool true) (.cmp .neq (.var 7) (.int .i64 0)))
    (.ret [(.bool false)])
    (.evs [.call 0 [(.var 9), (.var 10), (.var 11)] none 1]
     (.ite (.ite (.not (.var 15)) (.bool true) (.cmp .neq (.var 10) (.int .i64 0)))
     (.ret [(.bool false)])
     (.ret [(.bool true)])))))))))
def Fs_sStokesValid : List Fun1 := [G_sFracValid]
def F_sStokesValid : Fun1 := ofTree Fs_sStokesValid tr_sStokesValid
def G_sStokesValid : Fun1 := ⟨fun _ => True, fun ins => [.bool (allB (fun k => realQ (q3 ins (3 * k))) 0 4)]⟩
theorem out_sStokesValid : (fun (g : Nat → Int) => F_sStokesValid.out (ivs g 0 12)) = fun g => nestC (fun k => if toB (.bool (!validQ (q3 (ivs g 0 12) (3 * k)))) = true then .bool true else .bool (i0 (ivs g 0 12) (3 * k + 1) != 0)) 0 4 := by kernel_rfl
theorem as_sStokesValid (ins : List Value) (ht : TypedL (intTs 12 ++ []) ins) (_ : G_sStokesValid.pre ins) : F_sStokesValid.pre ins ∧ F_sStokesValid.out ins = G_sStokesValid.out ins := by
  obtain ⟨g, r, rfl, h1, _⟩ := ints_lit 12 0 ht
  obtain rfl := ints0 h1
  rw [List.append_nil]
  refine ⟨okT_free (by intro F hF ins; simp only [Fs_sStokesValid, List.mem_singleton] at hF; rw [hF]; trivial) _ _ (by kernel_rfl), (congrFun out_sStokesValid g).trans ?_⟩
  refine nestC_eq (fun k => ?_) 4 0
  simp only [toB_bool, realQ, q3]
  by_cases h : validQ (i0 (ivs g 0 12) (3 * k), i0 (ivs g 0 12) (3 * k + 1), i0 (ivs g 0 12) (3 * k + 2)) = true <;> simp [bne, h]

def tr_iTableApply : Tr :=
  (.evs [.call 0 [(.var 0), (.var 1), (.var 2), (.var 3), (.var 4), (.var 5), (.var 6), (.var 7), (.var 8), (.var 9), (.var 10), (.var 11), (.var 12), (.var 13), (.var 14), (.var 15), (.var 16), (.var 17), (.var 18), (.var 19), (.var 20), (.var 21), (.var 22), (.var 23), (.var 24), (.var 25), (.var 26), (.var 27), (.var 28), (.var 29), (.var 30), (.var 31), (.var 32), (.var 33), (.var 34), (.var 35), (.var 36), (.var 37), (.var 38), (.var 39), (.var 40), (.var 41), (.var 42), (.var 43), (.var 44), (.var 45), (.var 46), (.var 47)] none 1,
    .call 1 [(.var 48), (.var 49), (.var 50), (.var 51), (.var 52), (.var 53), (.var 54), (.var 55), (.var 56), (.var 57), (.var 58), (.var 59)] (some (.var 60)) 1,
    .call 2 [(.ite (.var 60) (.var 61) (.bool false)), (.bool false)] none 1]
  (.evs [.call 3 [(.var 0), (.var 1), (.var 2), (.var 48), (.var 49), (.var 50), (.var 62)] none 4]
  (.evs [.call 3 [(.var 3), (.var 4), (.var 5), (.var 51), (.var 52), (.var 53), (.var 66)] none 4,
    .call 4 [(.var 63), (.var 64), (.var 65), (.var 67), (.var 68), (.var 69), (.var 70)] none 4]
  (.evs [.call 3 [(.var 6), (.var 7), (.var 8), (.var 54), (.var 55), (.var 56), (.var 74)] none 4,
    .call 4 [(.var 71), (.var 72), (.var 73), (.var 75), (.var 76), (.var 77), (.var 78)] none 4]
  (.evs [.call 3 [(.var 9), (.var 10), (.var 11), (.var 57), (.var 58), (.var 59), (.var 82)] none 4,
    .call 4 [(.var 79), (.var 80), (.var 81), (.var 83), (.var 84), (.var 85), (.var 86)] none 4]
  (.evs [.call 3 [(.var 12), (.var 13), (.var 14), (.var 48), (.var 49), (.var 50), (.var 90)] none 4]
  (.evs [.call 3 [(.var 15), (.var 16), (.var 17), (.var 51), (.var 52), (.var 53), (.var 94)] none 4,
    .call 4 [(.var 91), (.var 92), (.var 93), (.var 95), (.var 96), (.var 97), (.var 98)] none 4]
  (.evs [.call 3 [(.var 18), (.var 19), (.var 20), (.var 54), (.var 55), (.var 56), (.var 102)] none 4,
    .call 4 [(.var 99), (.var 100), (.var 101), (.var 103), (.var 104), (.var 105), (.var 106)] none 4]
  (.evs [.call 3 [(.var 21), (.var 22), (.var 23), (.var 57), (.var 58), (.var 59), (.var 110)] none 4,
    .call 4 [(.var 107), (.var 108), (.var 109), (.var 111), (.var 112), (.var 113), (.var 114)] none 4]
  (.evs [.call 3 [(.var 24), (.var 25), (.var 26), (.var 48), (.var 49), (.var 50), (.var 118)] none 4]
  (.evs [.call 3 [(.var 27), (.var 28), (.var 29), (.var 51), (.var 52), (.var 53), (.var 122)] none 4,
    .call 4 [(.var 119), (.var 120), (.var 121), (.var 123), (.var 124), (.var 125), (.var 126)] none 4]
  (.evs [.call 3 [(.var 30), (.var 31), (.var 32), (.var 54), (.var 55), (.var 56), (.var 130)] none 4,
    .call 4 [(.var 127), (.var 128), (.var 129), (.var 131), (.var 132), (.var 133), (.var 134)] none 4]
  (.evs [.call 3 [(.var 33), (.var 34), (.var 35), (.var 57), (.var 58), (.var 59), (.var 138)] none 4,
    .call 4 [(.var 135), (.var 136), (.var 137), (.var 139), (.var 140), (.var 141), (.var 142)] none 4]
  (.evs [.call 3 [(.var 36), (.var 37), (.var 38), (.var 48), (.var 49), (.var 50), (.var 146)] none 4]
  (.evs [.call 3 [(.var 39), (.var 40), (.var 41), (.var 51), (.var 52), (.var 53), (.var 150)] none 4,
    .call 4 [(.var 147), (.var 148), (.var 149), (.var 151), (.var 152), (.var 153), (.var 154)] none 4]
  (.evs [.call 3 [(.var 42), (.var 43), (.var 44), (.var 54), (.var 55), (.var 56), (.var 158)] none 4,
    .call 4 [(.var 155), (.var 156), (.var 157), (.var 159), (.var 160), (.var 161), (.var 162)] none 4]
  (.evs [.call 3 [(.var 45), (.var 46), (.var 47), (.var 57), (.var 58), (.var 59), (.var 166)] none 4,
    .call 4 [(.var 163), (.var 164), (.var 165), (.var 167), (.var 168), (.var 169), (.var 170)] none 4]
  (.evs [.call 5 [(.var 87), (.var 88), (.var 89), (.var 115), (.var 116), (.var 117), (.var 143), (.var 144), (.var 145), (.var 171), (.var 172), (.var 173), (.var 174)] none 14]
  (.ret [(.var 175), (.var 176), (.var 177), (.var 178), (.var 179), (.var 180), (.var 181), (.var 182), (.var 183), (.var 184), (.var 185), (.var 186), (.var 187)])))))))))))))))))))
def Fs_iTableApply : List Fun1 := [G_iTableValid, G_iStokesValid, G_need, G_times, G_add, G_gotStokes]
def F_iTableApply : Fun1 := ofTree Fs_iTableApply tr_iTableApply
def apQ (ins : List Value) : Bool := tabQ (fun k => q3 ins (3 * k)) && stQ (fun k => q3 ins (48 + 3 * k))
def apD (ins : List Value) (k : Nat) : Option Q := dotQ (rowF (fun k => q3 ins (3 * k)) k) (fun k => q3 ins (48 + 3 * k))
def G_iTableApply : Fun1 := ⟨fun _ => True, fun ins => nttW 4 (apQ ins) (apD ins)⟩
def taI (a b : Nat → Q) : List Q × Bool := cellsI (fun k s => cellI (rowF a k) b s) 0 4 (false || !andG (tabQ a) (stQ b))
theorem taI_fin (a b : Nat → Q) : gotL (taI a b).2 (taI a b).1 ++ [.bool (!(taI a b).2)] = nttV 4 (tabQ a && stQ b) (fun k => dotQ (rowF a k) b) := by
  unfold taI
  rw [andG_eq, Bool.false_or]
  exact nttI_eq (d := fun k => dotQ (rowF a k) b) (fun k s => cellI_spec _ _ s) 4 _
theorem out_iTableApply : (fun (g : Nat → Int) => evalT' Fs_iTableApply tr_iTableApply (ivs g 0 60)) = fun g =>
    gotL (taI (fun k => q3 (ivs g 0 60) (3 * k)) (fun k => q3 (ivs g 0 60) (48 + 3 * k))).2 (taI (fun k => q3 (ivs g 0 60) (3 * k)) (fun k => q3 (ivs g 0 60) (48 + 3 * k))).1 ++
      [.bool (!(taI (fun k => q3 (ivs g 0 60) (3 * k)) (fun k => q3 (ivs g 0 60) (48 + 3 * k))).2)] := by kernel_rfl
theorem as_iTableApply (ins : List Value) (ht : TypedL (intTs 60 ++ []) ins) (_ : G_iTableApply.pre ins) : F_iTableApply.pre ins ∧ F_iTableApply.out ins = G_iTableApply.out ins := by
  obtain ⟨g, r, rfl, h1, _⟩ := ints_lit 60 0 ht
  obtain rfl := ints0 h1
  rw [List.append_nil]
  refine ⟨okT_free (by intro F hF ins; simp only [Fs_iTableApply, List.mem_cons, List.not_mem_nil, or_false] at hF; rcases hF with rfl | rfl | rfl | rfl | rfl | rfl <;> trivial) _ _ (by kernel_rfl), (evalT_sel (lens := [1, 1]) (Lens.cons (fun _ => rfl) (Lens.cons (fun _ => rfl) Lens.nil)) _ _ (by kernel_rfl)).trans ((congrFun out_iTableApply g).trans ?_)⟩
  exact (taI_fin _ _).trans (nttV_eq _ _ _)

def tr_sTableApply : Tr :=
  (.evs [.call 0 [(.var 0), (.var 1), (.var 2), (.var 3), (.var 4), (.var 5), (.var 6), (.var 7), (.var 8), (.var 9), (.var 10), (.var 11), (.var 12), (.var 13), (.var 14), (.var 15), (.var 16), (.var 17), (.var 18), (.var 19), (.var 20), (.var 21), (.var 22), (.var 23), (.var 24), (.var 25), (.var 26), (.var 27), (.var 28), (.var 29), (.var 30), (.var 31), (.var 32), (.var 33), (.var 34), (.var 35), (.var 36), (.var 37), (.var 38), (.var 39), (.var 40), (.var 41), (.var 42), (.var 43), (.var 44), (.var 45), (.var 46), (.var 47)] none 1,
    .call 1 [(.var 48), (.var 49), (.var 50), (.var 51), (.var 52), (.var 53), (.var 54), (.var 55), (.var 56), (.var 57), (.var 58), (.var 59)] (some (.var 60)) 1]
  (.ite (.ite (.var 60) (.var 61) (.bool false))
  (.evs [.call 2 [(.var 0), (.var 1), (.var 2), (.var 3), (.var 4), (.var 5), (.var 6), (.var 7), (.var 8), (.var 9), (.var 10), (.var 11), (.var 12), (.var 13), (.var 14), (.var 15), (.var 16), (.var 17), (.var 18), (.var 19), (.var 20), (.var 21), (.var 22), (.var 23), (.var 24), (.var 25), (.var 26), (.var 27), (.var 28), (.var 29), (.var 30), (.var 31), (.var 32), (.var 33), (.var 34), (.var 35), (.var 36), (.var 37), (.var 38), (.var 39), (.var 40), (.var 41), (.var 42), (.var 43), (.var 44), (.var 45), (.var 46), (.var 47)] none 12,
     .call 6 [(.var 62), (.var 63), (.var 64), (.var 65), (.var 66), (.var 67), (.var 68), (.var 69), (.var 70), (.var 71), (.var 72), (.var 73), (.var 48), (.var 49), (.var 50), (.var 51), (.var 52), (.var 53), (.var 54), (.var 55), (.var 56), (.var 57), (.var 58), (.var 59), (.ite (.var 60) (.var 61) (.bool false))] none 4]
   (.ite (.var 77)
   (.evs [.call 3 [(.var 0), (.var 1), (.var 2), (.var 3), (.var 4), (.var 5), (.var 6), (.var 7), (.var 8), (.var 9), (.var 10), (.var 11), (.var 12), (.var 13), (.var 14), (.var 15), (.var 16), (.var 17), (.var 18), (.var 19), (.var 20), (.var 21), (.var 22), (.var 23), (.var 24), (.var 25), (.var 26), (.var 27), (.var 28), (.var 29), (.var 30), (.var 31), (.var 32), (.var 33), (.var 34), (.var 35), (.var 36), (.var 37), (.var 38), (.var 39), (.var 40), (.var 41), (.var 42), (.var 43), (.var 44), (.var 45), (.var 46), (.var 47)] none 12,
      .call 6 [(.var 78), (.var 79), (.var 80), (.var 81), (.var 82), (.var 83), (.var 84), (.var 85), (.var 86), (.var 87), (.var 88), (.var 89), (.var 48), (.var 49), (.var 50), (.var 51), (.var 52), (.var 53), (.var 54), (.var 55), (.var 56), (.var 57), (.var 58), (.var 59), (.var 77)] none 4]
    (.ite (.var 93)
    (.evs [.call 4 [(.var 0), (.var 1), (.var 2), (.var 3), (.var 4), (.var 5), (.var 6), (.var 7), (.var 8), (.var 9), (.var 10), (.var 11), (.var 12), (.var 13), (.var 14), (.var 15), (.var 16), (.var 17), (.var 18), (.var 19), (.var 20), (.var 21), (.var 22), (.var 23), (.var 24), (.var 25), (.var 26), (.var 27), (.var 28), (.var 29), (.var 30), (.var 31), (.var 32), (.var 33), (.var 34), (.var 35), (.var 36), (.var 37), (.var 38), (.var 39), (.var 40), (.var 41), (.var 42), (.var 43), (.var 44), (.var 45), (.var 46), (.var 47)] none 12,
       .call 6 [(.var 94), (.var 95), (.var 96), (.var 97), (.var 98), (.var 99), (.var 100), (.var 101), (.var 102), (.var 103), (.var 104), (.var 105), (.var 48), (.var 49), (.var 50), (.var 51), (.var 52), (.var 53), (.var 54), (.var 55), (.var 56), (.var 57), (.var 58), (.var 59), (.var 93)] none 4]
     (.ite (.var 109)
     (.evs [.call 5 [(.var 0), (.var 1), (.var 2), (.var 3), (.var 4), (.var 5), (.var 6), (.var 7), (.var 8), (.var 9), (.var 10), (.var 11), (.var 12), (.var 13), (.var 14), (.var 15), (.var 16), (.var 17), (.var 18), (.var 19), (.var 20), (.var 21), (.var 22), (.var 23), (.var 24), (.var 25), (.var 26), (.var 27), (.var 28), (.var 29), (.var 30), (.var 31), (.var 32), (.var 33), (.var 34), (.var 35), (.var 36), (.var 37), (.var 38), (.var 39), (.var 40), (.var 41), (.var 42), (.var 43), (.var 44), (.var 45), (.var 46), (.var 47)] none 12,
        .call 6 [(.var 110), (.var 111), (.var 112), (.var 113), (.var 114), (.var 115), (.var 116), (.var 117), (.var 118), (.var 119), (.var 120), (.var 121), (.var 48), (.var 49), (.var 50), (.var 51), (.var 52), (.var 53), (.var 54), (.var 55), (.var 56), (.var 57), (.var 58), (.var 59), (.var 109)] none 4]
      (.ite (.not (.var 125))
      (.ret [(.int .i64 0), (.int .i64 0), (.int .i64 0), (.int .i64 0), (.int .i64 0), (.int .i64 0), (.int .i64 0), (.int .i64 0), (.int .i64 0), (.int .i64 0), (.int .i64 0), (.int .i64 0), (.bool false)])
      (.ret [(.var 74), (.var 75), (.var 76), (.var 90), (.var 91), (.var 92), (.var 106), (.var 107), (.var 108), (.var 122), (.var 123), (.var 124), (.bool true)])))
     (.ite (.not (.var 109))
      (.ret [(.int .i64 0), (.int .i64 0), (.int .i64 0), (.int .i64 0), (.int .i64 0), (.int .i64 0), (.int .i64 0), (.int .i64 0), (.int .i64 0), (.int .i64 0), (.int .i64 0), (.int .i64 0), (.bool false)])
      (.ret [(.var 74), (.var 75), (.var 76), (.var 90), (.var 91), (.var 92), (.var 106), (.var 107), (.var 108), (.int .i64 0), (.int .i64 0), (.int .i64 0), (.bool true)]))))
    (.ite (.not (.var 93))
     (.ret [(.int .i64 0), (.int .i64 0), (.int .i64 0), (.int .i64 0), (.int .i64 0), (.int .i64 0), (.int .i64 0), (.int .i64 0), (.int .i64 0), (.int .i64 0), (.int .i64 0), (.int .i64 0), (.bool false)])
     (.ret [(.var 74), (.var 75), (.var 76), (.var 90), (.var 91), (.var 92), (.int .i64 0), (.int .i64 0), (.int .i64 0), (.int .i64 0), (.int .i64 0), (.int .i64 0), (.bool true)]))))
   (.ite (.not (.var 77))
    (.ret [(.int .i64 0), (.int .i64 0), (.int .i64 0), (.int .i64 0), (.int .i64 0), (.int .i64 0), (.int .i64 0), (.int .i64 0), (.int .i64 0), (.int .i64 0), (.int .i64 0), (.int .i64 0), (.bool false)])
    (.ret [(.var 74), (.var 75), (.var 76), (.int .i64 0), (.int .i64 0), (.int .i64 0), (.int .i64 0), (.int .i64 0), (.int .i64 0), (.int .i64 0), (.int .i64 0), (.int .i64 0), (.bool true)]))))
  (.ite (.not (.ite (.var 60) (.var 61) (.bool false)))
   (.ret [(.int .i64 0), (.int .i64 0), (.int .i64 0), (.int .i64 0), (.int .i64 0), (.int .i64 0), (.int .i64 0), (.int .i64 0), (.int .i64 0), (.int .i64 0), (.int .i64 0), (.int .i64 0), (.bool false)])
   (.ret [(.int .i64 0), (.int .i64 0), (.int .i64 0), (.int .i64 0), (.int .i64 0), (.int .i64 0), (.int .i64 0), (.int .i64 0), (.int .i64 0), (.int .i64 0), (.int .i64 0), (.int .i64 0), (.bool true)]))))
def Fs_sTableApply : List Fun1 := [G_sTableValid, G_sStokesValid, F_l6tOf0, F_l6tOf1, F_l6tOf2, F_l6tOf3, G_l6tRow]
def F_sTableApply : Fun1 := ofTree Fs_sTableApply tr_sTableApply
def G_sTableApply : Fun1 := ⟨fun _ => True, fun ins => nttW 4 (apQ ins) (apD ins)⟩
theorem out_sTableApply : (fun (g : Nat → Int) => evalT' Fs_sTableApply tr_sTableApply (ivs g 0 60)) = fun g =>
    nnestS 4 (fun k s => cellS' (rowF (fun k => q3 (ivs g 0 60) (3 * k)) k) (fun k => q3 (ivs g 0 60) (48 + 3 * k)) s) 4 0 [] (andG (tabQ fun k => q3 (ivs g 0 60) (3 * k)) (stQ fun k => q3 (ivs g 0 60) (48 + 3 * k))) := by kernel_rfl
theorem taS_fin (a b : Nat → Q) : nnestS 4 (fun k s => cellS' (rowF a k) b s) 4 0 [] (andG (tabQ a) (stQ b)) = nttV 4 (tabQ a && stQ b) (fun k => dotQ (rowF a k) b) := by
  rw [andG_eq]
  exact nttS_eq (d := fun k => dotQ (rowF a k) b) (fun k s => by simp only [cellS'_eq]; exact cellS_spec _ _ s) 4 _
theorem as_sTableApply (ins : List Value) (ht : TypedL (intTs 60 ++ []) ins) (_ : G_sTableApply.pre ins) : F_sTableApply.pre ins ∧ F_sTableApply.out ins = G_sTableApply.out ins := by
  obtain ⟨g, r, rfl, h1, _⟩ := ints_lit 60 0 ht
  obtain rfl := ints0 h1
  rw [List.append_nil]
  refine ⟨okT_free (by intro F hF ins; simp only [Fs_sTableApply, List.mem_cons, List.not_mem_nil, or_false] at hF; rcases hF with rfl | rfl | rfl | rfl | rfl | rfl | rfl <;> trivial) _ _ (by kernel_rfl), (evalT_sel (lens := [1, 1]) (Lens.cons (fun _ => rfl) (Lens.cons (fun _ => rfl) Lens.nil)) _ _ (by kernel_rfl)).trans ((congrFun out_sTableApply g).trans ?_)⟩
  exact (taS_fin _ _).trans (nttV_eq _ _ _)

def tr_wholeM : Tr :=
  (.ret [])
def Fs_wholeM : List Fun1 := []
def F_wholeM : Fun1 := ofTree Fs_wholeM tr_wholeM

def tr_wholeK1 : Tr :=
  (.ret [])
def Fs_wholeK1 : List Fun1 := []
def F_wholeK1 : Fun1 := ofTree Fs_wholeK1 tr_wholeK1

def tr_iFracCompare : Tr :=
  (.evs [.call 0 [(.var 0), (.var 1), (.var 2)] none 1,
    .call 0 [(.var 3), (.var 4), (.var 5)] (some (.not (.not (.var 6)))) 1]
  (.ite (.ite (.not (.var 6)) (.bool true) (.not (.var 7)))
  (.ret [(.int .i64 0), (.bool false)])
  (.ite (.cmp .lss (.ar .sub .i64 (.ar .mul .i64 (.var 0) (.var 5)) (.ar .mul .i64 (.var 3) (.var 2))) (.int .i64 0))
   (.ret [(.int .i64 (-1)), (.bool true)])
   (.ite (.cmp .gtr (.ar .sub .i64 (.ar .mul .i64 (.var 0) (.var 5)) (.ar .mul .i64 (.var 3) (.var 2))) (.int .i64 0))
    (.ret [(.int .i64 1), (.bool true)])
    (.ret [(.int .i64 0), (.bool true)])))))
def Fs_iFracCompare : List Fun1 := [G_realOk]
def F_iFracCompare : Fun1 := ofTree Fs_iFracCompare tr_iFracCompare
def G_iFracCompare : Fun1 := ⟨fun _ => True, fun ins => [.int .i64 (cmpF (q3 ins 0) (q3 ins 3)), .bool (realQ (q3 ins 0) && realQ (q3 ins 3))]⟩
theorem cmp_facts {a b c x y z : Int} (h : realQ (a, b, c) = true) (k : realQ (x, y, z) = true) : IntKind.i64.wrap (a * z) = a * z ∧ IntKind.i64.wrap (x * c) = x * c ∧ IntKind.i64.wrap (a * z - x * c) = a * z - x * c ∧ I64 (a * z - x * c) := by
  have h := realQ_valid h
  have k := realQ_valid k
  obtain ⟨e1, e2, e3, e4, e5, e6, e7, e8, e9, l1, l2⟩ := sum_facts h k
  exact ⟨e1, e2, e8, (I64_iff _).1 e8⟩
theorem as_iFracCompare (ins : List Value) (ht : TypedL [.int .i64, .int .i64, .int .i64, .int .i64, .int .i64, .int .i64] ins) (_ : G_iFracCompare.pre ins) : F_iFracCompare.pre ins ∧ F_iFracCompare.out ins = G_iFracCompare.out ins := by
  obtain ⟨a, b, c, x, y, z, rfl, _⟩ := ints6 ht
  simp only [F_iFracCompare, G_iFracCompare, tr_iFracCompare, Fs_iFracCompare, G_realOk, cmpF, crossI, q3, arI, ofTree, okT, okE, evalT, evalE, evsIn, ev, callF, preF, hasF, needs, i0, b0, toI_int, toB_bool, List.getD_cons_zero, List.getD_cons_succ, List.cons_append, List.nil_append, List.replicate, if_true, if_false, Bool.false_eq_true, and_true, true_and, implies_true, forall_const, false_implies, cmpI, Bool.not_true, Bool.not_false, Bool.true_and, Bool.false_and, Bool.and_true, Bool.and_false, reduceIte, List.append_nil, reduceCtorEq]
  cases h : realQ (a, b, c)
  · simp [h]
  · cases k : realQ (x, y, z)
    · simp [h, k]
    · obtain ⟨e1, e2, e3, _⟩ := cmp_facts h k
      simp only [h, k, e1, e2, e3, ofTree, okT, okE, evalT, evalE, evsIn, ev, callF, preF, hasF, needs, i0, b0, toI_int, toB_bool, List.getD_cons_zero, List.getD_cons_succ, List.cons_append, List.nil_append, List.replicate, if_true, if_false, Bool.false_eq_true, and_true, true_and, implies_true, forall_const, false_implies, cmpI, Bool.not_true, Bool.not_false, Bool.true_and, Bool.false_and, Bool.and_true, Bool.and_false, reduceIte, List.append_nil, reduceCtorEq]
      unfold sgnI
      generalize a * z - x * c = m
      by_cases h1 : m < 0
      · simp [h1]
      · by_cases h2 : m > 0
        · simp [h1, h2]
        · simp [h1, h2]

def tr_l2Sign : Tr :=
  (.ret [(.mx false .i64 (.int .i64 (-1)) (.mx true .i64 (.int .i64 1) (.var 0)))])
def Fs_l2Sign : List Fun1 := []
def F_l2Sign : Fun1 := ofTree Fs_l2Sign tr_l2Sign

def tr_sFracCompare : Tr :=
  (.evs [.call 0 [(.var 0), (.var 1), (.var 2)] none 1,
    .call 0 [(.var 3), (.var 4), (.var 5)] (some (.not (.not (.var 6)))) 1]
  (.ite (.ite (.ite (.ite (.not (.var 6)) (.bool true) (.not (.var 7))) (.bool true) (.cmp .neq (.var 1) (.int .i64 0))) (.bool true) (.cmp .neq (.var 4) (.int .i64 0)))
  (.ret [(.int .i64 0), (.bool false)])
  (.evs [.call 1 [(.ar .sub .i64 (.ar .mul .i64 (.var 0) (.var 5)) (.ar .mul .i64 (.var 3) (.var 2)))] none 1]
   (.ret [(.var 8), (.bool true)]))))
def Fs_sFracCompare : List Fun1 := [G_sFracValid, F_l2Sign]
def F_sFracCompare : Fun1 := ofTree Fs_sFracCompare tr_sFracCompare
def G_sFracCompare : Fun1 := ⟨fun _ => True, fun ins => [.int .i64 (cmpF (q3 ins 0) (q3 ins 3)), .bool (realQ (q3 ins 0) && realQ (q3 ins 3))]⟩
theorem sgn_mx {m : Int} : mxI false (-1) (mxI true 1 m) = sgnI m := by
  have e : mxI false (-1) (mxI true 1 m) = if (if m < 1 then m else 1) > -1 then (if m < 1 then m else 1) else -1 := rfl
  rw [e]
  unfold sgnI
  by_cases h1 : m < 0
  · rw [if_pos h1, if_pos (by omega : m < 1)]
    split <;> omega
  · rw [if_neg h1]
    by_cases h2 : m > 0
    · rw [if_pos h2]
      by_cases h3 : m < 1
      · omega
      · rw [if_neg h3]; rfl
    · rw [if_neg h2, if_pos (by omega : m < 1)]
      split <;> omega
theorem as_sFracCompare (ins : List Value) (ht : TypedL [.int .i64, .int .i64, .int .i64, .int .i64, .int .i64, .int .i64] ins) (_ : G_sFracCompare.pre ins) : F_sFracCompare.pre ins ∧ F_sFracCompare.out ins = G_sFracCompare.out ins := by
  obtain ⟨a, b, c, x, y, z, rfl, _⟩ := ints6 ht
  simp only [F_sFracCompare, G_sFracCompare, tr_sFracCompare, Fs_sFracCompare, F_l2Sign, tr_l2Sign, Fs_l2Sign, G_sFracValid, cmpF, crossI, q3, arI, sgn_mx, ofTree, okT, okE, evalT, evalE, evsIn, ev, callF, preF, hasF, needs, i0, b0, toI_int, toB_bool, List.getD_cons_zero, List.getD_cons_succ, List.cons_append, List.nil_append, List.replicate, if_true, if_false, Bool.false_eq_true, and_true, true_and, implies_true, forall_const, false_implies, cmpI, Bool.not_true, Bool.not_false, Bool.true_and, Bool.false_and, Bool.and_true, Bool.and_false, reduceIte, List.append_nil, reduceCtorEq]
  have hr : ∀ p q r : Int, realQ (p, q, r) = (validI p q r && (q == 0)) := fun _ _ _ => rfl
  by_cases h : realQ (a, b, c) = true
  · by_cases k : realQ (x, y, z) = true
    · obtain ⟨e1, e2, e3, _⟩ := cmp_facts h k
      rw [h, k]
      rw [hr, Bool.and_eq_true] at h k
      simp only [h.1, k.1, e1, e2, e3, ofTree, okT, okE, evalT, evalE, evsIn, ev, callF, preF, hasF, needs, i0, b0, toI_int, toB_bool, List.getD_cons_zero, List.getD_cons_succ, List.cons_append, List.nil_append, List.replicate, if_true, if_false, Bool.false_eq_true, and_true, true_and, implies_true, forall_const, false_implies, cmpI, Bool.not_true, Bool.not_false, Bool.true_and, Bool.false_and, Bool.and_true, Bool.and_false, reduceIte, List.append_nil, reduceCtorEq]
      have hb : (b != 0) = false := by simpa using h.2
      have hy : (y != 0) = false := by simpa using k.2
      simp [hb, hy]
    · have k : realQ (x, y, z) = false := by simpa using k
      rw [h, k]
      rw [hr, Bool.and_eq_true] at h
      rw [hr] at k
      have hb : (b != 0) = false := by simpa using h.2
      cases kv : validI x y z
      · simp [h.1, kv, hb]
      · have hy : (y != 0) = true := by rw [kv] at k; simpa using k
        simp [h.1, kv, hb, hy]
  · have h : realQ (a, b, c) = false := by simpa using h
    rw [h]
    rw [hr] at h
    cases hv : validI a b c
    · simp [hv]
    · have hb : (b != 0) = true := by rw [hv] at h; simpa using h
      cases kv : validI x y z <;> simp [hv, kv, hb]

def tr_six : Tr :=
  (.evs [.app (.val (.agg #[])) 3 (.cells [])]
  (.evs [.call 0 [] none 0]
  (.evs [.call 2 [(.var 0), (.var 1), (.var 2), (.var 3), (.var 4), (.var 5), (.var 6), (.var 7), (.var 8), (.var 9), (.var 10), (.var 11), (.var 12), (.var 13), (.var 14), (.var 15), (.var 16), (.var 17), (.var 18), (.var 19), (.var 20), (.var 21), (.var 22), (.var 23), (.var 24), (.var 25), (.var 26), (.var 27), (.var 28), (.var 29), (.var 30), (.var 31), (.var 32), (.var 33), (.var 34), (.var 35), (.var 36), (.var 37), (.var 38), (.var 39), (.var 40), (.var 41), (.var 42), (.var 43), (.var 44), (.var 45), (.var 46), (.var 47), (.int .i64 1), (.int .i64 0), (.int .i64 1), (.int .i64 1), (.int .i64 0), (.int .i64 1), (.int .i64 0), (.int .i64 0), (.int .i64 1), (.int .i64 0), (.int .i64 0), (.int .i64 1)] none 13]
  (.ite (.not (.var 62))
  (.ret [(.val (.slice none 0 0)), (.bool false), (.val (.agg #[]))])
  (.evs [.app (.var 49) 3 (.cells [(.var 50), (.var 51), (.var 52)])]
   (.evs [.call 1 [] none 0]
   (.evs [.call 2 [(.var 0), (.var 1), (.var 2), (.var 3), (.var 4), (.var 5), (.var 6), (.var 7), (.var 8), (.var 9), (.var 10), (.var 11), (.var 12), (.var 13), (.var 14), (.var 15), (.var 16), (.var 17), (.var 18), (.var 19), (.var 20), (.var 21), (.var 22), (.var 23), (.var 24), (.var 25), (.var 26), (.var 27), (.var 28), (.var 29), (.var 30), (.var 31), (.var 32), (.var 33), (.var 34), (.var 35), (.var 36), (.var 37), (.var 38), (.var 39), (.var 40), (.var 41), (.var 42), (.var 43), (.var 44), (.var 45), (.var 46), (.var 47), (.int .i64 1), (.int .i64 0), (.int .i64 1), (.int .i64 (-1)), (.int .i64 0), (.int .i64 1), (.int .i64 0), (.int .i64 0), (.int .i64 1), (.int .i64 0), (.int .i64 0), (.int .i64 1)] none 13]
   (.ite (.not (.var 77))
   (.ret [(.val (.slice none 0 0)), (.bool false), (.val (.agg #[]))])
   (.evs [.app (.var 64) 3 (.cells [(.var 65), (.var 66), (.var 67)])]
    (.evs [.call 0 [] none 0]
    (.evs [.call 2 [(.var 0), (.var 1), (.var 2), (.var 3), (.var 4), (.var 5), (.var 6), (.var 7), (.var 8), (.var 9), (.var 10), (.var 11), (.var 12), (.var 13), (.var 14), (.var 15), (.var 16), (.var 17), (.var 18), (.var 19), (.var 20), (.var 21), (.var 22), (.var 23), (.var 24), (.var 25), (.var 26), (.var 27), (.var 28), (.var 29), (.var 30), (.var 31), (.var 32), (.var 33), (.var 34), (.var 35), (.var 36), (.var 37), (.var 38), (.var 39), (.var 40), (.var 41), (.var 42), (.var 43), (.var 44), (.var 45), (.var 46), (.var 47), (.int .i64 1), (.int .i64 0), (.int .i64 1), (.int .i64 0), (.int .i64 0), (.int .i64 1), (.int .i64 1), (.int .i64 0), (.int .i64 1), (.int .i64 0), (.int .i64 0), (.int .i64 1)] none 13]
    (.ite (.not (.var 92))
    (.ret [(.val (.slice none 0 0)), (.bool false), (.val (.agg #[]))])
    (.evs [.app (.var 79) 3 (.cells [(.var 80), (.var 81), (.var 82)])]
     (.evs [.call 1 [] none 0]
     (.evs [.call 2 [(.var 0), (.var 1), (.var 2), (.var 3), (.var 4), (.var 5), (.var 6), (.var 7), (.var 8), (.var 9), (.var 10), (.var 11), (.var 12), (.var 13), (.var 14), (.var 15), (.var 16), (.var 17), (.var 18), (.var 19), (.var 20), (.var 21), (.var 22), (.var 23), (.var 24), (.var 25), (.var 26), (.var 27), (.var 28), (.var 29), (.var 30), (.var 31), (.var 32), (.var 33), (.var 34), (.var 35), (.var 36), (.var 37), (.var 38), (.var 39), (.var 40), (.var 41), (.var 42), (.var 43), (.var 44), (.var 45), (.var 46), (.var 47), (.int .i64 1), (.int .i64 0), (.int .i64 1), (.int .i64 0), (.int .i64 0), (.int .i64 1), (.int .i64 (-1)), (.int .i64 0), (.int .i64 1), (.int .i64 0), (.int .i64 0), (.int .i64 1)] none 13]
     (.ite (.not (.var 107))
     (.ret [(.val (.slice none 0 0)), (.bool false), (.val (.agg #[]))])
     (.evs [.app (.var 94) 3 (.cells [(.var 95), (.var 96), (.var 97)])]
      (.evs [.call 0 [] none 0]
      (.evs [.call 2 [(.var 0), (.var 1), (.var 2), (.var 3), (.var 4), (.var 5), (.var 6), (.var 7), (.var 8), (.var 9), (.var 10), (.var 11), (.var 12), (.var 13), (.var 14), (.var 15), (.var 16), (.var 17), (.var 18), (.var 19), (.var 20), (.var 21), (.var 22), (.var 23), (.var 24), (.var 25), (.var 26), (.var 27), (.var 28), (.var 29), (.var 30), (.var 31), (.var 32), (.var 33), (.var 34), (.var 35), (.var 36), (.var 37), (.var 38), (.var 39), (.var 40), (.var 41), (.var 42), (.var 43), (.var 44), (.var 45), (.var 46), (.var 47), (.int .i64 1), (.int .i64 0), (.int .i64 1), (.int .i64 0), (.int .i64 0), (.int .i64 1), (.int .i64 0), (.int .i64 0), (.int .i64 1), (.int .i64 1), (.int .i64 0), (.int .i64 1)] none 13]
      (.ite (.not (.var 122))
      (.ret [(.val (.slice none 0 0)), (.bool false), (.val (.agg #[]))])
      (.evs [.app (.var 109) 3 (.cells [(.var 110), (.var 111), (.var 112)])]
       (.evs [.call 1 [] none 0]
       (.evs [.call 2 [(.var 0), (.var 1), (.var 2), (.var 3), (.var 4), (.var 5), (.var 6), (.var 7), (.var 8), (.var 9), (.var 10), (.var 11), (.var 12), (.var 13), (.var 14), (.var 15), (.var 16), (.var 17), (.var 18), (.var 19), (.var 20), (.var 21), (.var 22), (.var 23), (.var 24), (.var 25), (.var 26), (.var 27), (.var 28), (.var 29), (.var 30), (.var 31), (.var 32), (.var 33), (.var 34), (.var 35), (.var 36), (.var 37), (.var 38), (.var 39), (.var 40), (.var 41), (.var 42), (.var 43), (.var 44), (.var 45), (.var 46), (.var 47), (.int .i64 1), (.int .i64 0), (.int .i64 1), (.int .i64 0), (.int .i64 0), (.int .i64 1), (.int .i64 0), (.int .i64 0), (.int .i64 1), (.int .i64 (-1)), (.int .i64 0), (.int .i64 1)] none 13]
       (.ite (.not (.var 137))
       (.ret [(.val (.slice none 0 0)), (.bool false), (.val (.agg #[]))])
       (.evs [.app (.var 124) 3 (.cells [(.var 125), (.var 126), (.var 127)])]
        (.ret [(.var 138), (.bool true), (.var 139)]))))))))))))))))))))))))))
def Fs_six : List Fun1 := [F_wholeK1, F_wholeM, G_iTableApply]
-- part kinds
/-- Whether the table (forty-eight numbers) can be done to the k-th kind, and the first number that it makes. -/
def kOk (l : List Value) (k : Nat) : Bool := nttT 4 (apQ (l ++ kd k)) (apD (l ++ kd k))
def kX (l : List Value) (k : Nat) : Q := tri (nttH 4 (apQ (l ++ kd k)) (apD (l ++ kd k))) 0
/-- The first numbers, one after the other. -/
def sixV (l : List Value) : Nat → List Value
  | 0 => []
  | k + 1 => sixV l k ++ vQ (kX l k)
theorem sixV_len (l : List Value) : ∀ k, (sixV l k).length = k * 3
  | 0 => rfl
  | k + 1 => by rw [sixV, List.length_append, sixV_len l k]; simp [vQ]; omega
theorem kd_get (g : Nat → Int) (k : Nat) : (∀ j, j < 16 → q3 (ivs g 0 48 ++ kd k) (3 * j) = tri g (3 * j)) ∧ ∀ j, j < 4 → q3 (ivs g 0 48 ++ kd k) (48 + 3 * j) = q3 (kd k) (3 * j) :=
  ⟨get16 rfl rfl rfl rfl rfl rfl rfl rfl rfl rfl rfl rfl rfl rfl rfl rfl, get4 rfl rfl rfl rfl⟩
theorem kd_val {k : Nat} (hk : k < 6) : ∃ s : Rat, (s = 1 ∨ s = -1) ∧ s = (if k % 2 = 0 then 1 else -1) ∧ ∀ x : Nat → Rat, x 0 * reR (q3 (kd k) (3 * 0)) + x 1 * reR (q3 (kd k) (3 * 1)) + x 2 * reR (q3 (kd k) (3 * 2)) + x 3 * reR (q3 (kd k) (3 * 3)) = x 0 + s * x (1 + k / 2) := by
  have r1 : reR (1, 0, 1) = 1 := by decide +kernel
  have r0 : reR (0, 0, 1) = 0 := by decide +kernel
  have rm : reR (-1, 0, 1) = -1 := by decide +kernel
  rcases (by omega : k = 0 ∨ k = 1 ∨ k = 2 ∨ k = 3 ∨ k = 4 ∨ k = 5) with rfl | rfl | rfl | rfl | rfl | rfl
  · exact ⟨1, .inl rfl, rfl, fun x => by show x 0 * reR (1, 0, 1) + x 1 * reR (1, 0, 1) + x 2 * reR (0, 0, 1) + x 3 * reR (0, 0, 1) = x 0 + 1 * x 1; rw [r1, r0]; grind⟩
  · exact ⟨-1, .inr rfl, rfl, fun x => by show x 0 * reR (1, 0, 1) + x 1 * reR (-1, 0, 1) + x 2 * reR (0, 0, 1) + x 3 * reR (0, 0, 1) = x 0 + -1 * x 1; rw [r1, r0, rm]; grind⟩
  · exact ⟨1, .inl rfl, rfl, fun x => by show x 0 * reR (1, 0, 1) + x 1 * reR (0, 0, 1) + x 2 * reR (1, 0, 1) + x 3 * reR (0, 0, 1) = x 0 + 1 * x 2; rw [r1, r0]; grind⟩
  · exact ⟨-1, .inr rfl, rfl, fun x => by show x 0 * reR (1, 0, 1) + x 1 * reR (0, 0, 1) + x 2 * reR (-1, 0, 1) + x 3 * reR (0, 0, 1) = x 0 + -1 * x 2; rw [r1, r0, rm]; grind⟩
  · exact ⟨1, .inl rfl, rfl, fun x => by show x 0 * reR (1, 0, 1) + x 1 * reR (0, 0, 1) + x 2 * reR (0, 0, 1) + x 3 * reR (1, 0, 1) = x 0 + 1 * x 3; rw [r1, r0]; grind⟩
  · exact ⟨-1, .inr rfl, rfl, fun x => by show x 0 * reR (1, 0, 1) + x 1 * reR (0, 0, 1) + x 2 * reR (0, 0, 1) + x 3 * reR (-1, 0, 1) = x 0 + -1 * x 3; rw [r1, r0, rm]; grind⟩
theorem kX_of {l : List Value} {t : Nat → Q} {k : Nat} (hk : k < 6) (e1 : ∀ j, j < 16 → q3 (l ++ kd k) (3 * j) = t j) (e2 : ∀ j, j < 4 → q3 (l ++ kd k) (48 + 3 * j) = q3 (kd k) (3 * j)) (h : kOk l k = true) :
    realQ (kX l k) = true ∧ (∀ j, j < 16 → realQ (t j) = true) ∧ reR (kX l k) = reR (t 0) + (if k % 2 = 0 then 1 else -1) * reR (t (1 + k / 2)) := by
  have h : nttT 4 (apQ (l ++ kd k)) (apD (l ++ kd k)) = true := h
  obtain ⟨o1, o2⟩ := nttT_ok h
  unfold apQ at o1
  rw [Bool.and_eq_true] at o1
  have ht : ∀ j, j < 16 → realQ (t j) = true := fun j hj => by rw [← e1 j hj]; exact tab_get o1.1 j hj
  have hs : ∀ j, j < 4 → realQ (q3 (kd k) (3 * j)) = true := kd_real k hk
  obtain ⟨v, hv⟩ := o2 0 (by omega)
  have hx : tri (nttH 4 (apQ (l ++ kd k)) (apD (l ++ kd k))) (3 * 0) = v := ntt_tri h hv
  have hx : kX l k = v := hx
  unfold apD at hv
  rw [dot_congr (row_congr e1 (by omega : 0 < 4)) e2] at hv
  obtain ⟨d1, d2, d3⟩ := dot_val hv (fun j hj => realQ_im (ht (4 * 0 + j) (by omega))) (fun j hj => realQ_im (hs j hj))
  obtain ⟨s, _, hs1, hs2⟩ := kd_val hk
  rw [hx]
  refine ⟨realQ_of d3 d2, ht, ?_⟩
  rw [d1, ← hs1]
  have := hs2 fun j => reR (rowF t 0 j)
  refine this.trans ?_
  unfold rowF
  simp only [Nat.mul_zero, Nat.zero_add]
/-- The first number is real, and what it is. -/
theorem kX_real {g : Nat → Int} {k : Nat} (hk : k < 6) (h : kOk (ivs g 0 48) k = true) : realQ (kX (ivs g 0 48) k) = true ∧ (∀ j, j < 16 → realQ (tri g (3 * j)) = true) ∧
    reR (kX (ivs g 0 48) k) = reR (tri g 0) + (if k % 2 = 0 then 1 else -1) * reR (tri g (3 * (1 + k / 2))) :=
  kX_of (t := fun j => tri g (3 * j)) hk (kd_get g k).1 (kd_get g k).2 h
theorem allB_false {p : Nat → Bool} : ∀ {n k : Nat}, allB p k n = false → ∃ i, k ≤ i ∧ i < k + n ∧ p i = false
  | 0, k, h => by cases h
  | n + 1, k, h => by
    rw [allB, Bool.and_eq_false_iff] at h
    rcases h with h | h
    · exact ⟨k, Nat.le_refl _, by omega, h⟩
    · obtain ⟨i, h1, h2, h3⟩ := allB_false h
      exact ⟨i, by omega, by omega, h3⟩
theorem sixV_get (l : List Value) : ∀ (n k j : Nat), k < n → j < 3 → (sixV l n).getD (k * 3 + j) undef = (vQ (kX l k)).getD j undef
  | 0, k, j, h, _ => by omega
  | n + 1, k, j, h, hj => by
    rw [sixV]
    by_cases hk : k < n
    · rw [← sixV_get l n k j hk hj]
      simp only [List.getD_eq_getElem?_getD]
      rw [List.getElem?_append_left (by rw [sixV_len]; omega)]
    · obtain rfl : k = n := by omega
      simp only [List.getD_eq_getElem?_getD]
      rw [List.getElem?_append_right (by rw [sixV_len]; omega), sixV_len, show k * 3 + j - k * 3 = j by omega]
theorem six_sel (l : List Value) {n k j : Nat} (hk : k < n) (hj : j < 3) : (Value.agg (sixV l n).toArray).cells.getD (k * 3 + j) undef = (vQ (kX l k)).getD j undef := by
  rw [← sixV_get l n k j hk hj]
  show (sixV l n).toArray.getD _ _ = _
  simp [Array.getD_eq_getD_getElem?, List.getD_eq_getElem?_getD]
theorem rq3_six (l : List Value) {n k : Nat} (hk : k < n) : rq3 (.agg (sixV l n).toArray) k = kX l k := by
  unfold rq3
  rw [six_sel l hk (by omega : 0 < 3), six_sel l hk (by omega : 1 < 3), six_sel l hk (by omega : 2 < 3)]
  rfl
theorem six_size (l : List Value) (n : Nat) : (Value.agg (sixV l n).toArray).cells.size = n * 3 := by
  show (sixV l n).toArray.size = _
  rw [List.size_toArray, sixV_len]
theorem grt_congr {x y : Nat → Q} : ∀ {n : Nat}, (∀ j, j < n → x j = y j) → grt x n = grt y n
  | 0, _ => rfl
  | n + 1, h => by
    have e := grt_congr (n := n) fun j hj => h j (by omega)
    have hl : grt y n < n + 1 := by
      rcases Nat.eq_zero_or_pos n with rfl | hp
      · exact Nat.zero_lt_one
      · have := grt_lt y n hp; omega
    rw [grt, grt, e, h n (by omega), h _ hl]
/-- The greatest one, or nothing. -/
def enQ (l : List Value) : Q := if allB (kOk l) 0 6 = true then kX l (grt (kX l) 6) else zq
def enV (l : List Value) : List Value := vQ (enQ l) ++ [.bool (allB (kOk l) 0 6)]
theorem enV_true {l : List Value} (h : allB (kOk l) 0 6 = true) : enV l = vQ (kX l (grt (kX l) 6)) ++ [.bool true] := by
  unfold enV enQ
  rw [if_pos h, h]
theorem enV_false {l : List Value} (h : allB (kOk l) 0 6 = false) : enV l = zeros 3 ++ [.bool false] := by
  unfold enV enQ
  rw [h]
  rfl
def enB (l : List Value) : Bool := allB (kOk l) 0 6
def SP_six : Spec := fun ins K => (allB (kOk ins) 0 6 = true → ∀ a cap, K [.slice a 6 cap, .bool true, .agg (sixV ins 6).toArray]) ∧ (allB (kOk ins) 0 6 = false → K [.slice none 0 0, .bool false, .agg #[]])
/-- One round after the other. -/
def rndP (l : List Value) (K : List Value → Prop) : List Prop → Nat → Value → Array Value → Prop
  | [], _, s, c => K [s, .bool true, .agg c]
  | p :: r, k, s, c => p ∧ True ∧ (Value.bool (!(nttT 4 (apQ (l ++ kd k)) (apD (l ++ kd k)))) = .bool true → K [.slice none 0 0, .bool false, .agg #[]]) ∧
      (Value.bool (!(nttT 4 (apQ (l ++ kd k)) (apD (l ++ kd k)))) = .bool false → c.size + 3 ≤ 1099511627776 ∧
        ∀ a len cap, HasTy .sl (.slice a len cap) → len * 3 = c.size + 3 → rndP l K r (k + 1) (.slice a len cap) (c ++ [Value.int .i64 (nttH 4 (apQ (l ++ kd k)) (apD (l ++ kd k)) 0), .int .i64 (nttH 4 (apQ (l ++ kd k)) (apD (l ++ kd k)) 1), .int .i64 (nttH 4 (apQ (l ++ kd k)) (apD (l ++ kd k)) 2)].toArray))
theorem six_eq : (fun (P : Program) (g : Nat → Int) (K : List Value → Prop) => sat P (specsOf Fs_six) tr_six (ivs g 0 48) [] K) = fun P g K =>
    (0 + 0 ≤ 1099511627776 ∧ ∀ a len cap, HasTy .sl (.slice a len cap) → len * 3 = 0 + 0 → rndP (ivs g 0 48) K [F_wholeK1.pre [], F_wholeM.pre [], F_wholeK1.pre [], F_wholeM.pre [], F_wholeK1.pre [], F_wholeM.pre []] 0 (.slice a len cap) #[]) := by kernel_rfl
theorem rnd_ok {l : List Value} {K : List Value → Prop} (hT : allB (kOk l) 0 6 = true → ∀ a cap, K [.slice a 6 cap, .bool true, .agg (sixV l 6).toArray]) (hF : ∀ k, k < 6 → kOk l k = false → K [.slice none 0 0, .bool false, .agg #[]]) :
    ∀ (ps : List Prop) (k : Nat) (a : Option Addr) (cap : Nat), (∀ p ∈ ps, p) → ps.length + k = 6 → allB (kOk l) 0 k = true → rndP l K ps k (.slice a k cap) (sixV l k).toArray
  | [], k, a, cap, _, hk, hall => by
    obtain rfl : k = 6 := by simpa using hk
    exact hT hall a cap
  | p :: r, k, a, cap, hp, hk, hall => by
    have hk : r.length + 1 + k = 6 := hk
    refine ⟨hp p List.mem_cons_self, trivial, fun h => ?_, fun h => ?_⟩
    · have h : (!(kOk l k)) = true := Value.bool.inj h
      exact hF k (by omega) (by simpa using h)
    · have h : (!(kOk l k)) = false := Value.bool.inj h
      have hs : (sixV l k).toArray.size = k * 3 := by rw [List.size_toArray, sixV_len]
      refine ⟨by rw [hs]; omega, fun a' len cap' ht hl => ?_⟩
      rw [hs] at hl
      obtain rfl : len = k + 1 := by omega
      have e : (sixV l k).toArray ++ [Value.int .i64 (nttH 4 (apQ (l ++ kd k)) (apD (l ++ kd k)) 0), .int .i64 (nttH 4 (apQ (l ++ kd k)) (apD (l ++ kd k)) 1), .int .i64 (nttH 4 (apQ (l ++ kd k)) (apD (l ++ kd k)) 2)].toArray = (sixV l (k + 1)).toArray := by
        rw [List.append_toArray]; rfl
      rw [e]
      refine rnd_ok hT hF r (k + 1) a' cap' (fun q hq => hp q (List.mem_cons_of_mem _ hq)) (by omega) ?_
      rw [allB_snoc, hall, Nat.zero_add]
      simpa using h
theorem sat_six (P : Program) (ins : List Value) (K : List Value → Prop) (ht : TypedL (intTs 48 ++ []) ins) (h : SP_six ins K) : sat P (specsOf Fs_six) tr_six ins [] K := by
  obtain ⟨g, r, rfl, h1, _⟩ := ints_lit 48 0 ht
  obtain rfl := ints0 h1
  rw [List.append_nil] at *
  obtain ⟨hT, hF⟩ := h
  refine Eq.mpr (congrFun (congrFun (congrFun six_eq P) g) K) ⟨by omega, fun a len cap hty hl => ?_⟩
  obtain rfl : len = 0 := by omega
  have pw : F_wholeK1.pre [] := okT_free (fun F hF => by cases hF) _ _ (by kernel_rfl)
  have pm : F_wholeM.pre [] := okT_free (fun F hF => by cases hF) _ _ (by kernel_rfl)
  refine rnd_ok hT (fun k hk hb => hF ?_) _ 0 a cap ?_ rfl rfl
  · cases ha : allB (kOk (ivs g 0 48)) 0 6 with
    | false => rfl
    | true => rw [allB_get ha k (Nat.zero_le _) (by omega)] at hb; cases hb
  · intro p hp
    simp only [List.mem_cons, List.not_mem_nil, or_false] at hp
    rcases hp with rfl | rfl | rfl | rfl | rfl | rfl
    · exact pw
    · exact pm
    · exact pw
    · exact pm
    · exact pw
    · exact pm

def tr_greatest : Tr :=
  (.lp 0 [(.int .i64 0), (.int .i64 0)] [.int .i64, .int .i64]
  (.ite (.cmp .lss (.var 2) (.len (.var 0)))
   (.evs [.need [(.inb (.var 1) (.var 2) 3), (.inb (.var 1) (.var 3) 3)],
      .need [(.inb (.var 1) (.var 2) 3), (.inb (.var 1) (.var 3) 3)],
      .call 0 [(.sel (.var 1) (.var 2) 3 0), (.sel (.var 1) (.var 2) 3 1), (.sel (.var 1) (.var 2) 3 2), (.sel (.var 1) (.var 3) 3 0), (.sel (.var 1) (.var 3) 3 1), (.sel (.var 1) (.var 3) 3 2)] none 2]
    (.ite (.cmp .gtr (.var 4) (.int .i64 0))
    (.next 0 [(.ar .add .i64 (.var 2) (.int .i64 1)), (.var 2)])
    (.next 0 [(.ar .add .i64 (.var 2) (.int .i64 1)), (.var 3)])))
   (.ret [(.var 3)])))
def Fs_greatest : List Fun1 := [G_iFracCompare]
def F_greatest : Fun1 := ⟨fun ins => Fit3 (ins.getD 0 undef) (ins.getD 1 undef), fun ins => [.int .i64 ((grt (rq3 (ins.getD 1 undef)) (rlen (ins.getD 0 undef)) : Nat) : Int)]⟩
theorem sat_greatest (P : Program) (ins : List Value) (K : List Value → Prop) (ht : TypedL [.sl, .row .i64 3] ins) (hp : F_greatest.pre ins) (hK : K (F_greatest.out ins)) : sat P (specsOf Fs_greatest) tr_greatest ins [] K := by
  obtain ⟨x, c, rfl, hx, hcT⟩ := two_of ht
  obtain ⟨a, n, cap, rfl, hc, hn⟩ : Fit3 x c := hp
  have hK : K [.int .i64 ((grt (rq3 c) n : Nat) : Int)] := hK
  refine ⟨fun vs => ∃ k : Nat, vs = [.int .i64 k, .int .i64 ((grt (rq3 c) k : Nat) : Int)] ∧ k ≤ n, fun vs => n - (toI (vs.getD 0 undef)).toNat, ⟨0, rfl, Nat.zero_le _⟩, ?_⟩
  rintro vs hty ⟨k, rfl, hk⟩
  refine ⟨fun h => ?_, fun h => ?_⟩
  · have hlt : k < n := by
      have : decide ((k : Int) < (n : Int)) = true := Value.bool.inj h
      simpa using this
    have hgl : grt (rq3 c) k < n := by
      rcases Nat.eq_zero_or_pos k with rfl | hp
      · exact hlt
      · have := grt_lt (rq3 c) k hp; omega
    have hin := inb_ok3 hc hlt
    have hin2 := inb_ok3 hc hgl
    have hall2 : ∀ e ∈ ([.inb (.var 1) (.var 2) 3, .inb (.var 1) (.var 3) 3] : List Ex), ev ([.slice a n cap, c] ++ [.int .i64 k, .int .i64 ((grt (rq3 c) k : Nat) : Int)]) e = .bool true := by
      intro e he
      simp only [List.mem_cons, List.not_mem_nil, or_false] at he
      rcases he with rfl | rfl
      · exact hin
      · exact hin2
    refine ⟨hall2, hall2, trivial, ?_⟩
    have done : 0 ≤ 0 → n - (toI (.int .i64 (IntKind.i64.wrap ((k : Int) + 1)))).toNat < n - (toI (.int .i64 (k : Int))).toNat := fun _ => by
      rw [wrap_next hlt hn]
      simp only [toI_int, Int.toNat_natCast]
      omega
    refine ⟨fun h2 => ?_, fun h2 => ?_⟩
    · have h2 : decide (cmpF (rq3 c k) (rq3 c (grt (rq3 c) k)) > 0) = true := Value.bool.inj h2
      have h2 := of_decide_eq_true h2
      refine ⟨⟨k + 1, ?_, by omega⟩, done (Nat.le_refl _)⟩
      show [Value.int .i64 (IntKind.i64.wrap ((k : Int) + 1)), Value.int .i64 (k : Int)] = _
      rw [wrap_next hlt hn, grt, if_pos h2]
    · have h2 : decide (cmpF (rq3 c k) (rq3 c (grt (rq3 c) k)) > 0) = false := Value.bool.inj h2
      have h2 := of_decide_eq_false h2
      refine ⟨⟨k + 1, ?_, by omega⟩, done (Nat.le_refl _)⟩
      show [Value.int .i64 (IntKind.i64.wrap ((k : Int) + 1)), Value.int .i64 ((grt (rq3 c) k : Nat) : Int)] = _
      rw [wrap_next hlt hn, grt, if_neg h2]
  · have hge : ¬ k < n := by
      have : decide ((k : Int) < (n : Int)) = false := Value.bool.inj h
      simpa using this
    obtain rfl : k = n := by omega
    exact hK

def tr_iTableEnergy : Tr :=
  (.evs [.call 0 [(.var 0), (.var 1), (.var 2), (.var 3), (.var 4), (.var 5), (.var 6), (.var 7), (.var 8), (.var 9), (.var 10), (.var 11), (.var 12), (.var 13), (.var 14), (.var 15), (.var 16), (.var 17), (.var 18), (.var 19), (.var 20), (.var 21), (.var 22), (.var 23), (.var 24), (.var 25), (.var 26), (.var 27), (.var 28), (.var 29), (.var 30), (.var 31), (.var 32), (.var 33), (.var 34), (.var 35), (.var 36), (.var 37), (.var 38), (.var 39), (.var 40), (.var 41), (.var 42), (.var 43), (.var 44), (.var 45), (.var 46), (.var 47)] none 3]
  (.ite (.not (.var 49))
  (.ret [(.int .i64 0), (.int .i64 0), (.int .i64 0), (.bool false)])
  (.evs [.call 1 [(.var 48), (.var 50)] none 1,
     .need [(.inb (.var 50) (.var 51) 3)]]
   (.ret [(.sel (.var 50) (.var 51) 3 0), (.sel (.var 50) (.var 51) 3 1), (.sel (.var 50) (.var 51) 3 2), (.bool true)]))))
def Ss_iTableEnergy : List Spec := [SP_six, F_greatest.spec]
def F_iTableEnergy : Fun1 := ⟨fun _ => True, fun ins => enV ins⟩
theorem sat_iTableEnergy (P : Program) (ins : List Value) (K : List Value → Prop) (ht : TypedL (intTs 48 ++ []) ins) (_ : F_iTableEnergy.pre ins) (hK : K (F_iTableEnergy.out ins)) : sat P Ss_iTableEnergy tr_iTableEnergy ins [] K := by
  obtain ⟨g, r, rfl, h1, _⟩ := ints_lit 48 0 ht
  obtain rfl := ints0 h1
  rw [List.append_nil] at *
  have hK : K (enV (ivs g 0 48)) := hK
  refine evs_step (call_step (sp := SP_six) rfl ?_)
  show SP_six (ivs g 0 48) _
  refine ⟨fun ha a cap => evs_nil ?_, fun ha => evs_nil ?_⟩
  · rw [enV_true ha] at hK
    refine ⟨fun h => (by cases h), fun _ => ?_⟩
    refine evs_step (call_step (sp := F_greatest.spec) rfl ⟨⟨a, 6, cap, rfl, six_size _ 6, by omega⟩, ?_⟩)
    have e : grt (rq3 (.agg (sixV (ivs g 0 48) 6).toArray)) 6 = grt (kX (ivs g 0 48)) 6 := grt_congr fun j hj => rq3_six _ hj
    have hlt := grt_lt (kX (ivs g 0 48)) 6 (by omega)
    show evSat P _ _ (_ ++ [.int .i64 ((grt (rq3 (.agg (sixV (ivs g 0 48) 6).toArray)) 6 : Nat) : Int)]) _
    rw [e]
    generalize grt (kX (ivs g 0 48)) 6 = m at *
    refine ⟨fun e he => by rw [List.mem_singleton.1 he]; exact inb_ok3 (six_size _ 6) hlt, evs_nil ?_⟩
    show K [(Value.agg (sixV (ivs g 0 48) 6).toArray).cells.getD (m * 3 + 0) undef, (Value.agg (sixV (ivs g 0 48) 6).toArray).cells.getD (m * 3 + 1) undef, (Value.agg (sixV (ivs g 0 48) 6).toArray).cells.getD (m * 3 + 2) undef, .bool true]
    rw [six_sel _ hlt (by omega : 0 < 3), six_sel _ hlt (by omega : 1 < 3), six_sel _ hlt (by omega : 2 < 3)]
    exact hK
  · rw [enV_false ha] at hK
    exact ⟨fun _ => hK, fun h => (by cases h)⟩

def tr_l6tKind0 : Tr :=
  (.evs [.need [(.bool true)],
    .need [(.bool true)]]
  (.ret [(.int .i64 1), (.int .i64 0), (.int .i64 1), (.int .i64 1), (.int .i64 0), (.int .i64 1), (.int .i64 0), (.int .i64 0), (.int .i64 1), (.int .i64 0), (.int .i64 0), (.int .i64 1)]))
def Fs_l6tKind0 : List Fun1 := []
def F_l6tKind0 : Fun1 := ofTree Fs_l6tKind0 tr_l6tKind0

def tr_l6tKind1 : Tr :=
  (.evs [.need [(.bool true)],
    .need [(.bool true)]]
  (.ret [(.int .i64 1), (.int .i64 0), (.int .i64 1), (.int .i64 (-1)), (.int .i64 0), (.int .i64 1), (.int .i64 0), (.int .i64 0), (.int .i64 1), (.int .i64 0), (.int .i64 0), (.int .i64 1)]))
def Fs_l6tKind1 : List Fun1 := []
def F_l6tKind1 : Fun1 := ofTree Fs_l6tKind1 tr_l6tKind1

def tr_l6tKind2 : Tr :=
  (.evs [.need [(.bool true)],
    .need [(.bool true)]]
  (.ret [(.int .i64 1), (.int .i64 0), (.int .i64 1), (.int .i64 0), (.int .i64 0), (.int .i64 1), (.int .i64 1), (.int .i64 0), (.int .i64 1), (.int .i64 0), (.int .i64 0), (.int .i64 1)]))
def Fs_l6tKind2 : List Fun1 := []
def F_l6tKind2 : Fun1 := ofTree Fs_l6tKind2 tr_l6tKind2

def tr_l6tKind3 : Tr :=
  (.evs [.need [(.bool true)],
    .need [(.bool true)]]
  (.ret [(.int .i64 1), (.int .i64 0), (.int .i64 1), (.int .i64 0), (.int .i64 0), (.int .i64 1), (.int .i64 (-1)), (.int .i64 0), (.int .i64 1), (.int .i64 0), (.int .i64 0), (.int .i64 1)]))
def Fs_l6tKind3 : List Fun1 := []
def F_l6tKind3 : Fun1 := ofTree Fs_l6tKind3 tr_l6tKind3

def tr_l6tKind4 : Tr :=
  (.evs [.need [(.bool true)],
    .need [(.bool true)]]
  (.ret [(.int .i64 1), (.int .i64 0), (.int .i64 1), (.int .i64 0), (.int .i64 0), (.int .i64 1), (.int .i64 0), (.int .i64 0), (.int .i64 1), (.int .i64 1), (.int .i64 0), (.int .i64 1)]))
def Fs_l6tKind4 : List Fun1 := []
def F_l6tKind4 : Fun1 := ofTree Fs_l6tKind4 tr_l6tKind4

def tr_l6tKind5 : Tr :=
  (.evs [.need [(.bool true)],
    .need [(.bool true)]]
  (.ret [(.int .i64 1), (.int .i64 0), (.int .i64 1), (.int .i64 0), (.int .i64 0), (.int .i64 1), (.int .i64 0), (.int .i64 0), (.int .i64 1), (.int .i64 (-1)), (.int .i64 0), (.int .i64 1)]))
def Fs_l6tKind5 : List Fun1 := []
def F_l6tKind5 : Fun1 := ofTree Fs_l6tKind5 tr_l6tKind5

def SP_l6tKind : Spec := kindSpec

def tr_l6tFirst : Tr :=
  (.lp 0 [(.int .i64 0), (.int .i64 0), (.int .i64 0), (.int .i64 0), (.int .i64 0), (.int .i64 0), (.int .i64 0)] [.int .i64, .int .i64, .int .i64, .int .i64, .int .i64, .int .i64, .int .i64]
  (.ite (.cmp .lss (.var 48) (.int .i64 6))
   (.evs [.call 0 [(.var 48)] none 12,
      .call 1 [(.var 0), (.var 1), (.var 2), (.var 3), (.var 4), (.var 5), (.var 6), (.var 7), (.var 8), (.var 9), (.var 10), (.var 11), (.var 12), (.var 13), (.var 14), (.var 15), (.var 16), (.var 17), (.var 18), (.var 19), (.var 20), (.var 21), (.var 22), (.var 23), (.var 24), (.var 25), (.var 26), (.var 27), (.var 28), (.var 29), (.var 30), (.var 31), (.var 32), (.var 33), (.var 34), (.var 35), (.var 36), (.var 37), (.var 38), (.var 39), (.var 40), (.var 41), (.var 42), (.var 43), (.var 44), (.var 45), (.var 46), (.var 47), (.var 55), (.var 56), (.var 57), (.var 58), (.var 59), (.var 60), (.var 61), (.var 62), (.var 63), (.var 64), (.var 65), (.var 66)] none 13]
    (.ite (.not (.var 79))
    (.ret [(.var 49), (.var 50), (.var 51), (.var 52), (.var 53), (.var 54), (.bool false)])
    (.evs [.call 2 [(.var 67), (.var 68), (.var 69), (.var 49), (.var 50), (.var 51)] none 2]
     (.evs [.call 2 [(.var 67), (.var 68), (.var 69), (.var 52), (.var 53), (.var 54)] none 2]
     (.ite (.ite (.cmp .eql (.var 48) (.int .i64 0)) (.bool true) (.cmp .lss (.var 80) (.int .i64 0)))
     (.ite (.ite (.cmp .eql (.var 48) (.int .i64 0)) (.bool true) (.cmp .gtr (.var 82) (.int .i64 0)))
      (.next 0 [(.ar .add .i64 (.var 48) (.int .i64 1)), (.var 67), (.var 68), (.var 69), (.var 67), (.var 68), (.var 69)])
      (.next 0 [(.ar .add .i64 (.var 48) (.int .i64 1)), (.var 67), (.var 68), (.var 69), (.var 52), (.var 53), (.var 54)]))
     (.ite (.ite (.cmp .eql (.var 48) (.int .i64 0)) (.bool true) (.cmp .gtr (.var 82) (.int .i64 0)))
      (.next 0 [(.ar .add .i64 (.var 48) (.int .i64 1)), (.var 49), (.var 50), (.var 51), (.var 67), (.var 68), (.var 69)])
      (.next 0 [(.ar .add .i64 (.var 48) (.int .i64 1)), (.var 49), (.var 50), (.var 51), (.var 52), (.var 53), (.var 54)])))))))
   (.ret [(.var 49), (.var 50), (.var 51), (.var 52), (.var 53), (.var 54), (.bool true)])))
def Ss_l6tFirst : List Spec := [SP_l6tKind, G_sTableApply.spec, G_sFracCompare.spec]
def SP_l6tFirst : Spec := fun ins K => (allB (kOk ins) 0 6 = true → K (vQ (loF (kX ins) 6) ++ vQ (hiF (kX ins) 6) ++ [.bool true])) ∧ (allB (kOk ins) 0 6 = false → ∀ p q : Q, K (vQ p ++ vQ q ++ [.bool false]))
def bodyOf : Tr → Tr
  | .lp _ _ _ b => b
  | t => t
theorem first_eq : (fun (P : Program) (g : Nat → Int) (k : Int) (lo hi : Q) (N K : List Value → Prop) => sat P Ss_l6tFirst (bodyOf tr_l6tFirst) (ivs g 0 48 ++ (.int .i64 k :: (vQ lo ++ vQ hi))) [N] K) = fun P g k lo hi N K =>
    ((Value.bool (decide (k < 6)) = .bool true → ∃ j : Nat, j < 6 ∧ [Value.int .i64 k] = [.int .i64 (j : Int)] ∧ True ∧
      ((Value.bool (!(kOk (ivs g 0 48) j)) = .bool true → K (vQ lo ++ vQ hi ++ [.bool false])) ∧
       (Value.bool (!(kOk (ivs g 0 48) j)) = .bool false → True ∧ True ∧
        (((if toB (Value.bool (decide (k = 0))) = true then Value.bool true else .bool (decide (cmpF (kX (ivs g 0 48) j) lo < 0))) = .bool true →
           (((if toB (Value.bool (decide (k = 0))) = true then Value.bool true else .bool (decide (cmpF (kX (ivs g 0 48) j) hi > 0))) = .bool true → N (.int .i64 (IntKind.i64.wrap (k + 1)) :: (vQ (kX (ivs g 0 48) j) ++ vQ (kX (ivs g 0 48) j)))) ∧
            ((if toB (Value.bool (decide (k = 0))) = true then Value.bool true else .bool (decide (cmpF (kX (ivs g 0 48) j) hi > 0))) = .bool false → N (.int .i64 (IntKind.i64.wrap (k + 1)) :: (vQ (kX (ivs g 0 48) j) ++ vQ hi))))) ∧
         ((if toB (Value.bool (decide (k = 0))) = true then Value.bool true else .bool (decide (cmpF (kX (ivs g 0 48) j) lo < 0))) = .bool false →
           (((if toB (Value.bool (decide (k = 0))) = true then Value.bool true else .bool (decide (cmpF (kX (ivs g 0 48) j) hi > 0))) = .bool true → N (.int .i64 (IntKind.i64.wrap (k + 1)) :: (vQ lo ++ vQ (kX (ivs g 0 48) j)))) ∧
            ((if toB (Value.bool (decide (k = 0))) = true then Value.bool true else .bool (decide (cmpF (kX (ivs g 0 48) j) hi > 0))) = .bool false → N (.int .i64 (IntKind.i64.wrap (k + 1)) :: (vQ lo ++ vQ hi))))))))) ∧
     (Value.bool (decide (k < 6)) = .bool false → K (vQ lo ++ vQ hi ++ [.bool true]))) := by kernel_rfl
theorem first_cond {k : Nat} {p : Prop} [Decidable p] {b : Bool} (h : (if toB (Value.bool (decide ((k : Int) = 0))) = true then Value.bool true else .bool (decide p)) = .bool b) : b = true ↔ k = 0 ∨ p := by
  by_cases h0 : k = 0
  · rw [decide_eq_true (by omega : (k : Int) = 0)] at h
    have : b = true := (Value.bool.inj h).symm
    simp [this, h0]
  · rw [decide_eq_false (by omega : ¬ (k : Int) = 0)] at h
    have : b = decide p := (Value.bool.inj h).symm
    simp [this, h0]
theorem sat_l6tFirst (P : Program) (ins : List Value) (K : List Value → Prop) (ht : TypedL (intTs 48 ++ []) ins) (h : SP_l6tFirst ins K) : sat P Ss_l6tFirst tr_l6tFirst ins [] K := by
  obtain ⟨g, r, rfl, h1, _⟩ := ints_lit 48 0 ht
  obtain rfl := ints0 h1
  rw [List.append_nil] at *
  obtain ⟨hT, hF⟩ := h
  have hF' : ∀ k, k < 6 → kOk (ivs g 0 48) k = false → ∀ p q : Q, K (vQ p ++ vQ q ++ [.bool false]) := fun k hk hb => by
    refine hF ?_
    cases ha : allB (kOk (ivs g 0 48)) 0 6 with
    | false => rfl
    | true => rw [allB_get ha k (Nat.zero_le _) (by omega)] at hb; cases hb
  refine ⟨fun vs => ∃ k : Nat, vs = .int .i64 k :: (vQ (loF (kX (ivs g 0 48)) k) ++ vQ (hiF (kX (ivs g 0 48)) k)) ∧ k ≤ 6 ∧ allB (kOk (ivs g 0 48)) 0 k = true, fun vs => 6 - (toI (vs.getD 0 undef)).toNat, ⟨0, rfl, Nat.zero_le _, rfl⟩, ?_⟩
  rintro vs hty ⟨k, rfl, hk, hall⟩
  clear hty
  refine Eq.mpr (congrFun (congrFun (congrFun (congrFun (congrFun (congrFun (congrFun first_eq P) g) (k : Int)) (loF (kX (ivs g 0 48)) k)) (hiF (kX (ivs g 0 48)) k)) _) K) ?_
  generalize hx : kX (ivs g 0 48) = x at *
  generalize hy : kOk (ivs g 0 48) = y at *
  generalize hlo : loF x k = lo at *
  generalize hhi : hiF x k = hi at *
  refine ⟨fun h => ?_, fun h => ?_⟩
  · have hlt : k < 6 := by
      have := of_decide_eq_true (Value.bool.inj h)
      omega
    refine ⟨k, hlt, rfl, trivial, fun hb => ?_, fun hb => ⟨trivial, trivial, ?_⟩⟩
    · exact hF' k hlt (by simpa using Value.bool.inj hb) lo hi
    have hb : y k = true := by simpa using Value.bool.inj hb
    have fin : ∀ p q : Q, loF x (k + 1) = p → hiF x (k + 1) = q → (∃ k' : Nat, (Value.int .i64 (IntKind.i64.wrap ((k : Int) + 1)) :: (vQ p ++ vQ q)) = .int .i64 k' :: (vQ (loF x k') ++ vQ (hiF x k')) ∧ k' ≤ 6 ∧ allB y 0 k' = true) ∧
        6 - (toI ((Value.int .i64 (IntKind.i64.wrap ((k : Int) + 1)) :: (vQ p ++ vQ q)).getD 0 undef)).toNat < 6 - (toI ((Value.int .i64 (k : Int) :: (vQ lo ++ vQ hi)).getD 0 undef)).toNat := by
      rintro p q rfl rfl
      rw [wrap_next hlt (by omega : 6 ≤ 9223372036854775807)]
      refine ⟨⟨k + 1, rfl, by omega, by rw [allB_snoc, hall, Nat.zero_add]; exact hb⟩, ?_⟩
      simp only [List.getD_cons_zero, toI_int, Int.toNat_natCast]
      omega
    have lo1 : k = 0 ∨ cmpF (x k) lo < 0 → loF x (k + 1) = x k := fun h => by rw [loF, hlo, if_pos h]
    have lo2 : ¬ (k = 0 ∨ cmpF (x k) lo < 0) → loF x (k + 1) = lo := fun h => by rw [loF, hlo, if_neg h]
    have hi1 : k = 0 ∨ cmpF (x k) hi > 0 → hiF x (k + 1) = x k := fun h => by rw [hiF, hhi, if_pos h]
    have hi2 : ¬ (k = 0 ∨ cmpF (x k) hi > 0) → hiF x (k + 1) = hi := fun h => by rw [hiF, hhi, if_neg h]
    refine ⟨fun h2 => ⟨fun h3 => ?_, fun h3 => ?_⟩, fun h2 => ⟨fun h3 => ?_, fun h3 => ?_⟩⟩
    · exact fin _ _ (lo1 ((first_cond h2).1 rfl)) (hi1 ((first_cond h3).1 rfl))
    · exact fin _ _ (lo1 ((first_cond h2).1 rfl)) (hi2 fun h => by have := (first_cond h3).2 h; cases this)
    · exact fin _ _ (lo2 fun h => by have := (first_cond h2).2 h; cases this) (hi1 ((first_cond h3).1 rfl))
    · exact fin _ _ (lo2 fun h => by have := (first_cond h2).2 h; cases this) (hi2 fun h => by have := (first_cond h3).2 h; cases this)
  · have hge : ¬ k < 6 := by
      have := of_decide_eq_false (Value.bool.inj h)
      omega
    obtain rfl : k = 6 := by omega
    subst hlo hhi
    exact hT hall

def tr_sTableEnergy : Tr :=
  (.evs [.call 0 [(.var 0), (.var 1), (.var 2), (.var 3), (.var 4), (.var 5), (.var 6), (.var 7), (.var 8), (.var 9), (.var 10), (.var 11), (.var 12), (.var 13), (.var 14), (.var 15), (.var 16), (.var 17), (.var 18), (.var 19), (.var 20), (.var 21), (.var 22), (.var 23), (.var 24), (.var 25), (.var 26), (.var 27), (.var 28), (.var 29), (.var 30), (.var 31), (.var 32), (.var 33), (.var 34), (.var 35), (.var 36), (.var 37), (.var 38), (.var 39), (.var 40), (.var 41), (.var 42), (.var 43), (.var 44), (.var 45), (.var 46), (.var 47)] none 7]
  (.ite (.not (.var 54))
  (.ret [(.int .i64 0), (.int .i64 0), (.int .i64 0), (.bool false)])
  (.ret [(.var 51), (.var 52), (.var 53), (.bool true)])))
def Ss_sTableEnergy : List Spec := [SP_l6tFirst]
def F_sTableEnergy : Fun1 := ⟨fun _ => True, enV⟩
theorem sat_sTableEnergy (P : Program) (ins : List Value) (K : List Value → Prop) (ht : TypedL (intTs 48 ++ []) ins) (_ : F_sTableEnergy.pre ins) (hK : K (F_sTableEnergy.out ins)) : sat P Ss_sTableEnergy tr_sTableEnergy ins [] K := by
  obtain ⟨g, r, rfl, h1, _⟩ := ints_lit 48 0 ht
  obtain rfl := ints0 h1
  rw [List.append_nil] at *
  have hK : K (enV (ivs g 0 48)) := hK
  refine evs_step (call_step (sp := SP_l6tFirst) rfl ?_)
  show SP_l6tFirst (ivs g 0 48) _
  refine ⟨fun ha => evs_nil ?_, fun ha p q => evs_nil ?_⟩
  · rw [enV_true ha, ← hi_grt (x := kX (ivs g 0 48)) 6 (by omega)] at hK
    exact ⟨fun h => (by cases h), fun _ => hK⟩
  · rw [enV_false ha] at hK
    exact ⟨fun _ => hK, fun h => (by cases h)⟩

def tr_FnExactTableEnergy : Tr :=
  (.evs [.call 0 [(.var 0), (.var 1), (.var 2), (.var 3), (.var 4), (.var 5), (.var 6), (.var 7), (.var 8), (.var 9), (.var 10), (.var 11), (.var 12), (.var 13), (.var 14), (.var 15), (.var 16), (.var 17), (.var 18), (.var 19), (.var 20), (.var 21), (.var 22), (.var 23), (.var 24), (.var 25), (.var 26), (.var 27), (.var 28), (.var 29), (.var 30), (.var 31), (.var 32), (.var 33), (.var 34), (.var 35), (.var 36), (.var 37), (.var 38), (.var 39), (.var 40), (.var 41), (.var 42), (.var 43), (.var 44), (.var 45), (.var 46), (.var 47)] none 48,
    .call 1 [(.var 48), (.var 49), (.var 50), (.var 51), (.var 52), (.var 53), (.var 54), (.var 55), (.var 56), (.var 57), (.var 58), (.var 59), (.var 60), (.var 61), (.var 62), (.var 63), (.var 64), (.var 65), (.var 66), (.var 67), (.var 68), (.var 69), (.var 70), (.var 71), (.var 72), (.var 73), (.var 74), (.var 75), (.var 76), (.var 77), (.var 78), (.var 79), (.var 80), (.var 81), (.var 82), (.var 83), (.var 84), (.var 85), (.var 86), (.var 87), (.var 88), (.var 89), (.var 90), (.var 91), (.var 92), (.var 93), (.var 94), (.var 95)] none 4]
  (.evs [.call 0 [(.var 0), (.var 1), (.var 2), (.var 3), (.var 4), (.var 5), (.var 6), (.var 7), (.var 8), (.var 9), (.var 10), (.var 11), (.var 12), (.var 13), (.var 14), (.var 15), (.var 16), (.var 17), (.var 18), (.var 19), (.var 20), (.var 21), (.var 22), (.var 23), (.var 24), (.var 25), (.var 26), (.var 27), (.var 28), (.var 29), (.var 30), (.var 31), (.var 32), (.var 33), (.var 34), (.var 35), (.var 36), (.var 37), (.var 38), (.var 39), (.var 40), (.var 41), (.var 42), (.var 43), (.var 44), (.var 45), (.var 46), (.var 47)] none 48,
    .call 2 [(.var 100), (.var 101), (.var 102), (.var 103), (.var 104), (.var 105), (.var 106), (.var 107), (.var 108), (.var 109), (.var 110), (.var 111), (.var 112), (.var 113), (.var 114), (.var 115), (.var 116), (.var 117), (.var 118), (.var 119), (.var 120), (.var 121), (.var 122), (.var 123), (.var 124), (.var 125), (.var 126), (.var 127), (.var 128), (.var 129), (.var 130), (.var 131), (.var 132), (.var 133), (.var 134), (.var 135), (.var 136), (.var 137), (.var 138), (.var 139), (.var 140), (.var 141), (.var 142), (.var 143), (.var 144), (.var 145), (.var 146), (.var 147)] none 4]
  (.evs [.call 3 [(.var 148), (.var 149), (.var 150), (.var 96), (.var 97), (.var 98)] none 1]
  (.ite (.ite (.not (.var 152)) (.bool true) (.not (.eqb (.var 151) (.var 99))))
  (.ret [(.bool false)])
  (.ret [(.bool true)])))))
def Fs_FnExactTableEnergy : List Fun1 := [G_toTable, F_sTableEnergy, F_iTableEnergy, G_eqFrac]
-- part copyT
theorem copy_toTable : (fun (g : Nat → Int) => G_toTable.out (ivs g 0 48)) = fun g => ivs g 0 48 := by kernel_rfl
def F_FnExactTableEnergy : Fun1 := ⟨fun _ => True, fun ins => [.bool true]⟩
theorem sat_FnExactTableEnergy (P : Program) (ins : List Value) (K : List Value → Prop) (ht : TypedL (intTs 48 ++ []) ins) (_ : F_FnExactTableEnergy.pre ins) (hK : K (F_FnExactTableEnergy.out ins)) : sat P (specsOf Fs_FnExactTableEnergy) tr_FnExactTableEnergy ins [] K := by
  obtain ⟨g, r, rfl, h1, _⟩ := ints_lit 48 0 ht
  obtain rfl := ints0 h1
  rw [List.append_nil] at *
  have hK : K [.bool true] := hK
  refine evs_step (call_step (sp := G_toTable.spec) rfl ⟨trivial, ?_⟩)
  show evSat P _ _ (ivs g 0 48 ++ G_toTable.out (ivs g 0 48)) _
  rw [congrFun copy_toTable g]
  refine call_step (sp := F_sTableEnergy.spec) rfl ⟨trivial, evs_nil ?_⟩
  have h4 : ∃ (q : Q) (b : Bool), F_sTableEnergy.out (ivs g 0 48) = vQ q ++ [.bool b] ∧ F_iTableEnergy.out (ivs g 0 48) = vQ q ++ [.bool b] := by
    exact ⟨enQ (ivs g 0 48), _, rfl, rfl⟩
  obtain ⟨q, b, e1, e2⟩ := h4
  show sat P _ _ (_ ++ F_sTableEnergy.out (ivs g 0 48)) _ _
  rw [e1]
  refine evs_step (call_step (sp := G_toTable.spec) rfl ⟨trivial, ?_⟩)
  show evSat P _ _ (_ ++ G_toTable.out (ivs g 0 48)) _
  rw [congrFun copy_toTable g]
  refine call_step (sp := F_iTableEnergy.spec) rfl ⟨trivial, evs_nil ?_⟩
  show sat P _ _ (_ ++ F_iTableEnergy.out (ivs g 0 48)) _ _
  rw [e2]
  refine evs_step (call_step (sp := G_eqFrac.spec) rfl ⟨trivial, evs_nil ?_⟩)
  have e : toB (.bool (eqQ q q)) = true := by rw [eqQ_self]; rfl
  refine ⟨fun h => ?_, fun _ => hK⟩
  have h : (if toB (Value.bool (!toB (.bool (eqQ q q)))) = true then Value.bool true else .bool (!(b == b))) = .bool true := h
  rw [e, beq_self_eq_true] at h
  cases h
theorem law_FnExactTableEnergy (ins : List Value) (_ : TypedL (intTs 48 ++ []) ins) : F_FnExactTableEnergy.pre ins ∧ F_FnExactTableEnergy.out ins = [.bool true] := ⟨trivial, rfl⟩

end Go.Sx

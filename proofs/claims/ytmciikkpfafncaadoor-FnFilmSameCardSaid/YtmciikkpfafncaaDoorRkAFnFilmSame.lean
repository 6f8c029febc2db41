/- What the functions reckon, by their trees. -/
import Derived.Test.YtmciikkpfafncaaDoorEe
import Derived.KernelRfl
namespace Go.Sx
open Go
set_option maxRecDepth 100000
set_option linter.unusedSimpArgs false
set_option linter.unusedVariables false

def tr_size : Tr :=
  (.ret [(.mx false .i64 (.var 0) (.ar .sub .i64 (.int .i64 0) (.var 0)))])
def Fs_size : List Fun1 := []
def F_size : Fun1 := ofTree Fs_size tr_size

def tr_within : Tr :=
  (.ret [(.ite (.cmp .geq (.var 0) (.var 1)) (.cmp .leq (.var 0) (.var 2)) (.bool false))])
def Fs_within : List Fun1 := []
def F_within : Fun1 := ofTree Fs_within tr_within
def G_within : Fun1 := ⟨fun _ => True, fun ins => [.bool (inRg (i0 ins 0) (i0 ins 1) (i0 ins 2))]⟩
theorem as_within (ins : List Value) (ht : TypedL [.int .i64, .int .i64, .int .i64] ins) (_ : G_within.pre ins) : F_within.pre ins ∧ F_within.out ins = G_within.out ins := by
  obtain ⟨a, b, c, rfl, _, _, _⟩ := ints3 ht
  refine ⟨trivial, ?_⟩
  show [if (decide (a ≥ b)) = true then Value.bool (decide (a ≤ c)) else Value.bool false] = [Value.bool (decide (b ≤ a) && decide (a ≤ c))]
  by_cases h : b ≤ a <;> simp [h]

def tr_l6In : Tr :=
  (.ret [(.ite (.cmp .geq (.var 0) (.var 1)) (.cmp .leq (.var 0) (.var 2)) (.bool false))])
def Fs_l6In : List Fun1 := []
def F_l6In : Fun1 := ofTree Fs_l6In tr_l6In
def G_l6In : Fun1 := ⟨fun _ => True, fun ins => [.bool (inRg (i0 ins 0) (i0 ins 1) (i0 ins 2))]⟩
theorem as_l6In (ins : List Value) (ht : TypedL [.int .i64, .int .i64, .int .i64] ins) (_ : G_l6In.pre ins) : F_l6In.pre ins ∧ F_l6In.out ins = G_l6In.out ins := by
  obtain ⟨a, b, c, rfl, _, _, _⟩ := ints3 ht
  refine ⟨trivial, ?_⟩
  show [if (decide (a ≥ b)) = true then Value.bool (decide (a ≤ c)) else Value.bool false] = [Value.bool (decide (b ≤ a) && decide (a ≤ c))]
  by_cases h : b ≤ a <;> simp [h]
def A_l6In : AF := aAny 1
theorem aok_l6In {cb : CodeB} : AOK cb G_l6In A_l6In := aAny_ok (fun _ => trivial) (fun ins => by rfl)

def tr_l2In : Tr :=
  (.evs [.call 0 [(.var 0), (.int .i64 (-2000000000)), (.int .i64 2000000000)] none 1]
  (.ret [(.var 1)]))
def Fs_l2In : List Fun1 := [G_l6In]
def F_l2In : Fun1 := ofTree Fs_l2In tr_l2In
def G_l2In : Fun1 := ⟨fun _ => True, fun ins => [.bool (inR (i0 ins 0))]⟩
theorem as_l2In (ins : List Value) (ht : TypedL [.int .i64] ins) (_ : G_l2In.pre ins) : F_l2In.pre ins ∧ F_l2In.out ins = G_l2In.out ins := by
  obtain ⟨a, rfl, _⟩ := ints1 ht
  exact ⟨⟨⟨trivial, trivial⟩, trivial⟩, rfl⟩

def tr_divisor : Tr :=
  (.lp 0 [(.var 0), (.var 1)] [.int .i64, .int .i64]
  (.ite (.cmp .neq (.var 3) (.int .i64 0))
   (.evs [.need [(.cmp .neq (.var 3) (.int .i64 0))]]
    (.next 0 [(.var 3), (.ar .rem .i64 (.var 2) (.var 3))]))
   (.ret [(.var 2)])))
def Fs_divisor : List Fun1 := []
def F_divisor : Fun1 := ⟨fun _ => True, fun ins => [.int .i64 (euc (i0 ins 0) (i0 ins 1))]⟩
theorem sat_divisor (P : Program) (ins : List Value) (K : List Value → Prop) (ht : TypedL [.int .i64, .int .i64] ins) (_ : F_divisor.pre ins) (hK : K (F_divisor.out ins)) : sat P (specsOf Fs_divisor) tr_divisor ins [] K := by
  obtain ⟨a, b, rfl, wa, wb⟩ := ints2 ht
  refine ⟨fun vs => ∃ x y, vs = [.int .i64 x, .int .i64 y] ∧ euc x y = euc a b, fun vs => (toI (vs.getD 1 undef)).natAbs, ⟨a, b, rfl, rfl⟩, ?_⟩
  rintro vs hty ⟨x, y, rfl, he⟩
  refine ⟨fun hc => ?_, fun hc => ?_⟩
  · have hy : y ≠ 0 := by simpa [ev, cmpI] using hc
    refine ⟨fun e he' => by rw [List.mem_singleton.1 he']; exact hc, ⟨_, _, rfl, ?_⟩, ?_⟩
    · rw [← he, euc_step hy]; rfl
    · show (x.tmod y).natAbs < y.natAbs
      rw [Int.natAbs_tmod]
      exact Nat.mod_lt _ (by omega)
  · have hy : y = 0 := by simpa [ev, cmpI] using hc
    subst hy
    rw [euc_zero] at he
    show K [.int .i64 x]
    rw [he]
    exact hK

def tr_l2Gcd : Tr :=
  (.lp 0 [(.var 0), (.var 1)] [.int .i64, .int .i64]
  (.ite (.cmp .neq (.var 3) (.int .i64 0))
   (.evs [.need [(.cmp .neq (.var 3) (.int .i64 0))]]
    (.next 0 [(.var 3), (.ar .rem .i64 (.var 2) (.var 3))]))
   (.ret [(.mx false .i64 (.var 2) (.ar .sub .i64 (.int .i64 0) (.var 2)))])))
def Fs_l2Gcd : List Fun1 := []
def F_l2Gcd : Fun1 := ⟨fun _ => True, fun ins => [.int .i64 (mxI false (euc (i0 ins 0) (i0 ins 1)) (IntKind.i64.wrap (0 - euc (i0 ins 0) (i0 ins 1))))]⟩
theorem sat_l2Gcd (P : Program) (ins : List Value) (K : List Value → Prop) (ht : TypedL [.int .i64, .int .i64] ins) (_ : F_l2Gcd.pre ins) (hK : K (F_l2Gcd.out ins)) : sat P (specsOf Fs_l2Gcd) tr_l2Gcd ins [] K := by
  obtain ⟨a, b, rfl, wa, wb⟩ := ints2 ht
  refine ⟨fun vs => ∃ x y, vs = [.int .i64 x, .int .i64 y] ∧ euc x y = euc a b, fun vs => (toI (vs.getD 1 undef)).natAbs, ⟨a, b, rfl, rfl⟩, ?_⟩
  rintro vs hty ⟨x, y, rfl, he⟩
  refine ⟨fun hc => ?_, fun hc => ?_⟩
  · have hy : y ≠ 0 := by simpa [ev, cmpI] using hc
    refine ⟨fun e he' => by rw [List.mem_singleton.1 he']; exact hc, ⟨_, _, rfl, ?_⟩, ?_⟩
    · rw [← he, euc_step hy]; rfl
    · show (x.tmod y).natAbs < y.natAbs
      rw [Int.natAbs_tmod]
      exact Nat.mod_lt _ (by omega)
  · have hy : y = 0 := by simpa [ev, cmpI] using hc
    subst hy
    rw [euc_zero] at he
    show K [.int .i64 (mxI false x (IntKind.i64.wrap (0 - x)))]
    rw [he]
    exact hK

def tr_lowest : Tr :=
  (.evs [.call 0 [(.var 0)] none 1,
    .call 0 [(.var 1)] none 1,
    .call 1 [(.var 3), (.var 4)] none 1,
    .call 1 [(.var 5), (.var 2)] none 1]
  (.evs [.need [(.cmp .neq (.var 6) (.int .i64 0)), (.cmp .neq (.var 6) (.int .i64 0)), (.cmp .neq (.var 6) (.int .i64 0))]]
  (.evs [.call 2 [(.ar .quo .i64 (.var 0) (.var 6)), (.int .i64 (-2000000000)), (.int .i64 2000000000)] none 1,
    .call 2 [(.ar .quo .i64 (.var 1) (.var 6)), (.int .i64 (-2000000000)), (.int .i64 2000000000)] (some (.not (.not (.var 7)))) 1]
  (.ite (.ite (.ite (.not (.var 7)) (.bool true) (.not (.var 8))) (.bool true) (.cmp .gtr (.ar .quo .i64 (.var 2) (.var 6)) (.int .i64 2000000000)))
  (.ret [(.int .i64 0), (.int .i64 0), (.int .i64 0), (.bool false)])
  (.ret [(.ar .quo .i64 (.var 0) (.var 6)), (.ar .quo .i64 (.var 1) (.var 6)), (.ar .quo .i64 (.var 2) (.var 6)), (.bool true)])))))
def Fs_lowest : List Fun1 := [F_size, F_divisor, G_within]
def F_lowest : Fun1 := ofTree Fs_lowest tr_lowest
def G_lowest : Fun1 := ⟨fun ins => lowOk (i0 ins 0) (i0 ins 1) (i0 ins 2), fun ins => fr4 (lowI (i0 ins 0) (i0 ins 1) (i0 ins 2))⟩
theorem as_lowest (ins : List Value) (ht : TypedL [.int .i64, .int .i64, .int .i64] ins) (hp : G_lowest.pre ins) : F_lowest.pre ins ∧ F_lowest.out ins = G_lowest.out ins := by
  obtain ⟨a, b, c, rfl, wa, wb, wc⟩ := ints3 ht
  obtain ⟨p1, p2, p3, p4, p5, p6⟩ : lowOk a b c := hp
  have e1 := size_abs ⟨p1, p2⟩
  have e2 := size_abs ⟨p3, p4⟩
  have e3 : euc (a.natAbs : Nat) (b.natAbs : Nat) = (Nat.gcd a.natAbs b.natAbs : Nat) := euc_nat _ _
  have e4 : euc (Nat.gcd a.natAbs b.natAbs : Nat) c = (gcd3 a b c : Nat) := by rw [euc_eq (by omega) (by omega)]; rfl
  have hg : gcd3 a b c ≠ 0 := by have := gcd3_pos (a := a) (b := b) p5; omega
  have hgi : ((gcd3 a b c : Nat) : Int) ≠ 0 := by omega
  have q1 := quo_ok (g := gcd3 a b c) ⟨p1, p2⟩
  have q2 := quo_ok (g := gcd3 a b c) ⟨p3, p4⟩
  have q3 := quo_ok (a := c) (g := gcd3 a b c) ⟨by omega, p6⟩
  simp only [F_lowest, G_lowest, tr_lowest, Fs_lowest, F_size, tr_size, Fs_size, F_divisor, G_within, lowI, arI, ofTree, okT, okE, evalT, evalE, evsIn, ev, callF, preF, hasF, needs, i0, b0, toI_int, toB_bool, List.getD_cons_zero, List.getD_cons_succ, List.cons_append, List.nil_append, List.replicate, if_true, if_false, Bool.false_eq_true, and_true, true_and, implies_true, forall_const, false_implies, cmpI, Bool.not_true, Bool.not_false, Bool.true_and, Bool.false_and, Bool.and_true, Bool.and_false, reduceIte, List.append_nil, reduceCtorEq, e1, e2, e3, e4, q1, q2, q3]
  have r1 : ∀ z, inRg z (-2000000000) 2000000000 = inR z := fun _ => rfl
  simp only [r1]
  cases h1 : inR (a.tdiv (gcd3 a b c)) <;> cases h2 : inR (b.tdiv (gcd3 a b c)) <;> by_cases h3 : c.tdiv (gcd3 a b c) ≤ 2000000000 <;> simp [h1, h2, h3, hgi, hg, fr4, zq] <;> omega

def tr_sFracValid : Tr :=
  (.evs [.call 0 [(.var 0)] none 1,
    .call 0 [(.var 1)] (some (.var 3)) 1,
    .call 1 [(.var 2), (.int .i64 1), (.int .i64 2000000000)] (some (.ite (.var 3) (.var 4) (.bool false))) 1,
    .call 2 [(.var 2), (.var 0)] (some (.ite (.ite (.var 3) (.var 4) (.bool false)) (.var 5) (.bool false))) 1,
    .call 2 [(.var 6), (.var 1)] (some (.ite (.ite (.var 3) (.var 4) (.bool false)) (.var 5) (.bool false))) 1]
  (.ret [(.ite (.ite (.ite (.var 3) (.var 4) (.bool false)) (.var 5) (.bool false)) (.cmp .eql (.var 7) (.int .i64 1)) (.bool false))]))
def Fs_sFracValid : List Fun1 := [G_l2In, G_l6In, F_l2Gcd]
def F_sFracValid : Fun1 := ofTree Fs_sFracValid tr_sFracValid
def G_sFracValid : Fun1 := ⟨fun _ => True, fun ins => [.bool (validI (i0 ins 0) (i0 ins 1) (i0 ins 2))]⟩
theorem as_sFracValid (ins : List Value) (ht : TypedL [.int .i64, .int .i64, .int .i64] ins) (_ : G_sFracValid.pre ins) : F_sFracValid.pre ins ∧ F_sFracValid.out ins = G_sFracValid.out ins := by
  obtain ⟨a, b, c, rfl, wa, wb, wc⟩ := ints3 ht
  have key : inR a = true → inR b = true → inRg c 1 2000000000 = true → mxI false (euc c a) (IntKind.i64.wrap (0 - euc c a)) = (Nat.gcd c.natAbs a.natAbs : Nat) ∧
      mxI false (euc (Nat.gcd c.natAbs a.natAbs : Nat) b) (IntKind.i64.wrap (0 - euc (Nat.gcd c.natAbs a.natAbs : Nat) b)) = (gcd3 a b c : Nat) := by
    intro ha hb hc
    simp only [inR, inRg, Bool.and_eq_true, decide_eq_true_eq] at ha hb hc
    have h0 : Nat.gcd c.natAbs a.natAbs ≤ c.natAbs := Nat.gcd_le_left _ (by omega)
    have hp : 0 < Nat.gcd c.natAbs a.natAbs := Nat.gcd_pos_of_pos_left _ (by omega)
    refine ⟨gcd_small (by omega), ?_⟩
    have h2 : Nat.gcd ((Nat.gcd c.natAbs a.natAbs : Nat) : Int).natAbs b.natAbs ≤ Nat.gcd c.natAbs a.natAbs := Nat.gcd_le_left _ hp
    rw [gcd_small (by omega), Int.natAbs_natCast, gcd3_alt]
  simp only [F_sFracValid, G_sFracValid, tr_sFracValid, Fs_sFracValid, G_l2In, G_l6In, F_l2Gcd, validI, ofTree, okT, okE, evalT, evalE, evsIn, ev, callF, preF, hasF, needs, i0, b0, toI_int, toB_bool, List.getD_cons_zero, List.getD_cons_succ, List.cons_append, List.nil_append, List.replicate, if_true, if_false, Bool.false_eq_true, and_true, true_and, implies_true, forall_const, false_implies, cmpI, Bool.not_true, Bool.not_false, Bool.true_and, Bool.false_and, Bool.and_true, Bool.and_false, reduceIte, List.append_nil, reduceCtorEq]
  cases ha : inR a
  · simp [ha]
  · cases hb : inR b
    · simp [ha, hb]
    · cases hc : inRg c 1 2000000000
      · simp [ha, hb, hc]
      · obtain ⟨k1, k2⟩ := key ha hb hc
        simp only [ha, hb, hc, k1, k2, ofTree, okT, okE, evalT, evalE, evsIn, ev, callF, preF, hasF, needs, i0, b0, toI_int, toB_bool, List.getD_cons_zero, List.getD_cons_succ, List.cons_append, List.nil_append, List.replicate, if_true, if_false, Bool.false_eq_true, and_true, true_and, implies_true, forall_const, false_implies, cmpI, Bool.not_true, Bool.not_false, Bool.true_and, Bool.false_and, Bool.and_true, Bool.and_false, reduceIte, List.append_nil, reduceCtorEq]
        simp
        by_cases h1 : gcd3 a b c = 1
        · simp [h1]
        · rw [beq_eq_false_iff_ne.2 h1, beq_eq_false_iff_ne]
          omega

def tr_l2Low : Tr :=
  (.evs [.call 0 [(.var 2), (.var 0)] none 1,
    .call 0 [(.var 3), (.var 1)] none 1]
  (.evs [.need [(.cmp .neq (.var 4) (.int .i64 0)), (.cmp .neq (.var 4) (.int .i64 0)), (.cmp .neq (.var 4) (.int .i64 0))]]
  (.evs [.call 1 [(.ar .quo .i64 (.var 0) (.var 4)), (.ar .quo .i64 (.var 1) (.var 4)), (.ar .quo .i64 (.var 2) (.var 4))] none 1]
  (.ite (.not (.var 5))
  (.ret [(.int .i64 0), (.int .i64 0), (.int .i64 0), (.bool false)])
  (.ret [(.ar .quo .i64 (.var 0) (.var 4)), (.ar .quo .i64 (.var 1) (.var 4)), (.ar .quo .i64 (.var 2) (.var 4)), (.bool true)])))))
def Fs_l2Low : List Fun1 := [F_l2Gcd, G_sFracValid]
def F_l2Low : Fun1 := ofTree Fs_l2Low tr_l2Low
def G_l2Low : Fun1 := ⟨fun ins => lowOk (i0 ins 0) (i0 ins 1) (i0 ins 2), fun ins => fr4 (lowI (i0 ins 0) (i0 ins 1) (i0 ins 2))⟩
theorem as_l2Low (ins : List Value) (ht : TypedL [.int .i64, .int .i64, .int .i64] ins) (hp : G_l2Low.pre ins) : F_l2Low.pre ins ∧ F_l2Low.out ins = G_l2Low.out ins := by
  obtain ⟨a, b, c, rfl, wa, wb, wc⟩ := ints3 ht
  obtain ⟨p1, p2, p3, p4, p5, p6⟩ : lowOk a b c := hp
  have hc0 : 0 < c.natAbs := by omega
  have g1 : Nat.gcd c.natAbs a.natAbs ≤ c.natAbs := Nat.gcd_le_left _ hc0
  have gp : 0 < Nat.gcd c.natAbs a.natAbs := Nat.gcd_pos_of_pos_left _ hc0
  have e1 : mxI false (euc c a) (IntKind.i64.wrap (0 - euc c a)) = (Nat.gcd c.natAbs a.natAbs : Nat) := gcd_small (by omega)
  have g2 : Nat.gcd ((Nat.gcd c.natAbs a.natAbs : Nat) : Int).natAbs b.natAbs ≤ Nat.gcd c.natAbs a.natAbs := Nat.gcd_le_left _ gp
  have e2 : mxI false (euc (Nat.gcd c.natAbs a.natAbs : Nat) b) (IntKind.i64.wrap (0 - euc (Nat.gcd c.natAbs a.natAbs : Nat) b)) = (gcd3 a b c : Nat) := by
    rw [gcd_small (by omega), Int.natAbs_natCast, gcd3_alt]
  have hg : gcd3 a b c ≠ 0 := by have := gcd3_pos (a := a) (b := b) p5; omega
  have hgi : ((gcd3 a b c : Nat) : Int) ≠ 0 := by omega
  have q1 := quo_ok (g := gcd3 a b c) ⟨p1, p2⟩
  have q2 := quo_ok (g := gcd3 a b c) ⟨p3, p4⟩
  have q3 := quo_ok (a := c) (g := gcd3 a b c) ⟨by omega, p6⟩
  simp only [F_l2Low, G_l2Low, tr_l2Low, Fs_l2Low, F_l2Gcd, G_sFracValid, lowI, arI, ofTree, okT, okE, evalT, evalE, evsIn, ev, callF, preF, hasF, needs, i0, b0, toI_int, toB_bool, List.getD_cons_zero, List.getD_cons_succ, List.cons_append, List.nil_append, List.replicate, if_true, if_false, Bool.false_eq_true, and_true, true_and, implies_true, forall_const, false_implies, cmpI, Bool.not_true, Bool.not_false, Bool.true_and, Bool.false_and, Bool.and_true, Bool.and_false, reduceIte, List.append_nil, reduceCtorEq, e1, e2, q1, q2, q3, valid_low p5]
  cases h1 : inR (a.tdiv (gcd3 a b c)) <;> cases h2 : inR (b.tdiv (gcd3 a b c)) <;> by_cases h3 : c.tdiv (gcd3 a b c) ≤ 2000000000 <;> simp [h1, h2, h3, hgi, hg, fr4, zq] <;> omega
def A_l2Low : AF
  | [.itv a b, .itv c d, .itv e f] => if decide (-9223372036854775808 < a) && (decide (b ≤ 9223372036854775807) && (decide (-9223372036854775808 < c) && (decide (d ≤ 9223372036854775807) && (decide (1 ≤ e) && decide (f ≤ 9223372036854775807))))) then some [.any, .any, .any, .any] else none
  | _ => none
theorem aok_l2Low {cb : CodeB} : AOK cb G_l2Low A_l2Low := by
  intro I O h ins hi
  match I, ins, hi, h with
  | [.itv a b, .itv c d, .itv e f], [x, y, z], ⟨⟨x', hx, x1, x2⟩, ⟨y', hy, y1, y2⟩, ⟨z', hz, z1, z2⟩, _⟩, h =>
    simp only [A_l2Low] at h
    split at h
    · rename_i hc
      cases h
      simp only [Bool.and_eq_true, decide_eq_true_eq] at hc
      subst hx hy hz
      exact ⟨show lowOk x' y' z' by unfold lowOk; omega, trivial, trivial, trivial, trivial, trivial⟩
    · cases h

def tr_iFracValid : Tr :=
  (.evs [.call 0 [(.var 0), (.int .i64 (-2000000000)), (.int .i64 2000000000)] none 1,
    .call 0 [(.var 1), (.int .i64 (-2000000000)), (.int .i64 2000000000)] (some (.var 3)) 1,
    .call 0 [(.var 2), (.int .i64 1), (.int .i64 2000000000)] (some (.ite (.var 3) (.var 4) (.bool false))) 1,
    .call 2 [(.var 0)] (some (.ite (.ite (.var 3) (.var 4) (.bool false)) (.var 5) (.bool false))) 1,
    .call 2 [(.var 1)] (some (.ite (.ite (.var 3) (.var 4) (.bool false)) (.var 5) (.bool false))) 1,
    .call 1 [(.var 6), (.var 7)] (some (.ite (.ite (.var 3) (.var 4) (.bool false)) (.var 5) (.bool false))) 1,
    .call 1 [(.var 8), (.var 2)] (some (.ite (.ite (.var 3) (.var 4) (.bool false)) (.var 5) (.bool false))) 1]
  (.ret [(.ite (.ite (.ite (.var 3) (.var 4) (.bool false)) (.var 5) (.bool false)) (.cmp .eql (.var 9) (.int .i64 1)) (.bool false))]))
def Fs_iFracValid : List Fun1 := [G_within, F_divisor, F_size]
def F_iFracValid : Fun1 := ofTree Fs_iFracValid tr_iFracValid
def G_iFracValid : Fun1 := ⟨fun _ => True, fun ins => [.bool (validI (i0 ins 0) (i0 ins 1) (i0 ins 2))]⟩
theorem as_iFracValid (ins : List Value) (ht : TypedL [.int .i64, .int .i64, .int .i64] ins) (_ : G_iFracValid.pre ins) : F_iFracValid.pre ins ∧ F_iFracValid.out ins = G_iFracValid.out ins := by
  obtain ⟨a, b, c, rfl, wa, wb, wc⟩ := ints3 ht
  have key : inR a = true → inR b = true → inRg c 1 2000000000 = true → mxI false a (IntKind.i64.wrap (0 - a)) = a.natAbs ∧ mxI false b (IntKind.i64.wrap (0 - b)) = b.natAbs ∧
      euc (a.natAbs : Nat) (b.natAbs : Nat) = (Nat.gcd a.natAbs b.natAbs : Nat) ∧ euc (Nat.gcd a.natAbs b.natAbs : Nat) c = (gcd3 a b c : Nat) := by
    intro ha hb hc
    simp only [inR, inRg, Bool.and_eq_true, decide_eq_true_eq] at ha hb hc
    exact ⟨size_abs (by omega), size_abs (by omega), euc_nat _ _, by rw [euc_eq (by omega) (by omega)]; rfl⟩
  have r1 : ∀ z, inRg z (-2000000000) 2000000000 = inR z := fun _ => rfl
  cases ha : inR a
  · simp only [F_iFracValid, G_iFracValid, tr_iFracValid, Fs_iFracValid, G_within, F_divisor, F_size, tr_size, Fs_size, validI, arI, r1, ha, ofTree, okT, okE, evalT, evalE, evsIn, ev, callF, preF, hasF, needs, i0, b0, toI_int, toB_bool, List.getD_cons_zero, List.getD_cons_succ, List.cons_append, List.nil_append, List.replicate, if_true, if_false, Bool.false_eq_true, and_true, true_and, implies_true, forall_const, false_implies, cmpI, Bool.not_true, Bool.not_false, Bool.true_and, Bool.false_and, Bool.and_true, Bool.and_false, reduceIte, List.append_nil, reduceCtorEq]
  · cases hb : inR b
    · simp only [F_iFracValid, G_iFracValid, tr_iFracValid, Fs_iFracValid, G_within, F_divisor, F_size, tr_size, Fs_size, validI, arI, r1, ha, hb, ofTree, okT, okE, evalT, evalE, evsIn, ev, callF, preF, hasF, needs, i0, b0, toI_int, toB_bool, List.getD_cons_zero, List.getD_cons_succ, List.cons_append, List.nil_append, List.replicate, if_true, if_false, Bool.false_eq_true, and_true, true_and, implies_true, forall_const, false_implies, cmpI, Bool.not_true, Bool.not_false, Bool.true_and, Bool.false_and, Bool.and_true, Bool.and_false, reduceIte, List.append_nil, reduceCtorEq]
    · cases hc : inRg c 1 2000000000
      · simp only [F_iFracValid, G_iFracValid, tr_iFracValid, Fs_iFracValid, G_within, F_divisor, F_size, tr_size, Fs_size, validI, arI, r1, ha, hb, hc, ofTree, okT, okE, evalT, evalE, evsIn, ev, callF, preF, hasF, needs, i0, b0, toI_int, toB_bool, List.getD_cons_zero, List.getD_cons_succ, List.cons_append, List.nil_append, List.replicate, if_true, if_false, Bool.false_eq_true, and_true, true_and, implies_true, forall_const, false_implies, cmpI, Bool.not_true, Bool.not_false, Bool.true_and, Bool.false_and, Bool.and_true, Bool.and_false, reduceIte, List.append_nil, reduceCtorEq]
      · obtain ⟨k1, k2, k3, k4⟩ := key ha hb hc
        simp only [F_iFracValid, G_iFracValid, tr_iFracValid, Fs_iFracValid, G_within, F_divisor, F_size, tr_size, Fs_size, validI, arI, r1, ha, hb, hc, k1, k2, k3, k4, ofTree, okT, okE, evalT, evalE, evsIn, ev, callF, preF, hasF, needs, i0, b0, toI_int, toB_bool, List.getD_cons_zero, List.getD_cons_succ, List.cons_append, List.nil_append, List.replicate, if_true, if_false, Bool.false_eq_true, and_true, true_and, implies_true, forall_const, false_implies, cmpI, Bool.not_true, Bool.not_false, Bool.true_and, Bool.false_and, Bool.and_true, Bool.and_false, reduceIte, List.append_nil, reduceCtorEq]
        by_cases h1 : gcd3 a b c = 1
        · simp [h1]
        · have h2 : ((gcd3 a b c : Nat) : Int) ≠ 1 := by omega
          rw [beq_eq_false_iff_ne.2 h2, beq_eq_false_iff_ne.2 h1]

def tr_iFracAdd : Tr :=
  (.evs [.call 0 [(.var 0), (.var 1), (.var 2)] none 1,
    .call 0 [(.var 3), (.var 4), (.var 5)] (some (.not (.not (.var 6)))) 1]
  (.ite (.ite (.not (.var 6)) (.bool true) (.not (.var 7)))
  (.ret [(.int .i64 0), (.int .i64 0), (.int .i64 0), (.bool false)])
  (.evs [.call 1 [(.ar .add .i64 (.ar .mul .i64 (.var 0) (.var 5)) (.ar .mul .i64 (.var 3) (.var 2))), (.ar .add .i64 (.ar .mul .i64 (.var 1) (.var 5)) (.ar .mul .i64 (.var 4) (.var 2))), (.ar .mul .i64 (.var 2) (.var 5))] none 4]
   (.ret [(.var 8), (.var 9), (.var 10), (.var 11)]))))
def Fs_iFracAdd : List Fun1 := [G_iFracValid, G_lowest]
def F_iFracAdd : Fun1 := ofTree Fs_iFracAdd tr_iFracAdd
def G_iFracAdd : Fun1 := ⟨fun _ => True, fun ins => fr4 (addQ (q3 ins 0) (q3 ins 3))⟩
theorem as_iFracAdd (ins : List Value) (ht : TypedL [.int .i64, .int .i64, .int .i64, .int .i64, .int .i64, .int .i64] ins) (_ : G_iFracAdd.pre ins) : F_iFracAdd.pre ins ∧ F_iFracAdd.out ins = G_iFracAdd.out ins := by
  obtain ⟨a, b, c, x, y, z, rfl, _⟩ := ints6 ht
  simp only [F_iFracAdd, G_iFracAdd, tr_iFracAdd, Fs_iFracAdd, G_iFracValid, G_lowest, addQ, validQ, q3, arI, ofTree, okT, okE, evalT, evalE, evsIn, ev, callF, preF, hasF, needs, i0, b0, toI_int, toB_bool, List.getD_cons_zero, List.getD_cons_succ, List.cons_append, List.nil_append, List.replicate, if_true, if_false, Bool.false_eq_true, and_true, true_and, implies_true, forall_const, false_implies, cmpI, Bool.not_true, Bool.not_false, Bool.true_and, Bool.false_and, Bool.and_true, Bool.and_false, reduceIte, List.append_nil, reduceCtorEq]
  cases h : validI a b c
  · simp [h, fr4, zq]
  · cases k : validI x y z
    · simp [h, k, fr4, zq]
    · obtain ⟨e1, e2, e3, e4, e5, e6, e7, e8, e9, l1, l2⟩ := sum_facts h k
      simp only [h, k, e1, e2, e3, e4, e5, e6, e7, ofTree, okT, okE, evalT, evalE, evsIn, ev, callF, preF, hasF, needs, i0, b0, toI_int, toB_bool, List.getD_cons_zero, List.getD_cons_succ, List.cons_append, List.nil_append, List.replicate, if_true, if_false, Bool.false_eq_true, and_true, true_and, implies_true, forall_const, false_implies, cmpI, Bool.not_true, Bool.not_false, Bool.true_and, Bool.false_and, Bool.and_true, Bool.and_false, reduceIte, List.append_nil, reduceCtorEq]
      simp [fr4, l1]

def tr_iFracTimes : Tr :=
  (.evs [.call 0 [(.var 0), (.var 1), (.var 2)] none 1,
    .call 0 [(.var 3), (.var 4), (.var 5)] (some (.not (.not (.var 6)))) 1]
  (.ite (.ite (.not (.var 6)) (.bool true) (.not (.var 7)))
  (.ret [(.int .i64 0), (.int .i64 0), (.int .i64 0), (.bool false)])
  (.evs [.call 1 [(.ar .sub .i64 (.ar .mul .i64 (.var 0) (.var 3)) (.ar .mul .i64 (.var 1) (.var 4))), (.ar .add .i64 (.ar .mul .i64 (.var 0) (.var 4)) (.ar .mul .i64 (.var 1) (.var 3))), (.ar .mul .i64 (.var 2) (.var 5))] none 4]
   (.ret [(.var 8), (.var 9), (.var 10), (.var 11)]))))
def Fs_iFracTimes : List Fun1 := [G_iFracValid, G_lowest]
def F_iFracTimes : Fun1 := ofTree Fs_iFracTimes tr_iFracTimes
def G_iFracTimes : Fun1 := ⟨fun _ => True, fun ins => fr4 (timesQ (q3 ins 0) (q3 ins 3))⟩
theorem as_iFracTimes (ins : List Value) (ht : TypedL [.int .i64, .int .i64, .int .i64, .int .i64, .int .i64, .int .i64] ins) (_ : G_iFracTimes.pre ins) : F_iFracTimes.pre ins ∧ F_iFracTimes.out ins = G_iFracTimes.out ins := by
  obtain ⟨a, b, c, x, y, z, rfl, _⟩ := ints6 ht
  simp only [F_iFracTimes, G_iFracTimes, tr_iFracTimes, Fs_iFracTimes, G_iFracValid, G_lowest, timesQ, validQ, q3, arI, ofTree, okT, okE, evalT, evalE, evsIn, ev, callF, preF, hasF, needs, i0, b0, toI_int, toB_bool, List.getD_cons_zero, List.getD_cons_succ, List.cons_append, List.nil_append, List.replicate, if_true, if_false, Bool.false_eq_true, and_true, true_and, implies_true, forall_const, false_implies, cmpI, Bool.not_true, Bool.not_false, Bool.true_and, Bool.false_and, Bool.and_true, Bool.and_false, reduceIte, List.append_nil, reduceCtorEq]
  cases h : validI a b c
  · simp [h, fr4, zq]
  · cases k : validI x y z
    · simp [h, k, fr4, zq]
    · obtain ⟨e1, e2, e3, e4, e5, e6, e7, l1⟩ := mul_facts h k
      simp only [h, k, e1, e2, e3, e4, e5, e6, e7, ofTree, okT, okE, evalT, evalE, evsIn, ev, callF, preF, hasF, needs, i0, b0, toI_int, toB_bool, List.getD_cons_zero, List.getD_cons_succ, List.cons_append, List.nil_append, List.replicate, if_true, if_false, Bool.false_eq_true, and_true, true_and, implies_true, forall_const, false_implies, cmpI, Bool.not_true, Bool.not_false, Bool.true_and, Bool.false_and, Bool.and_true, Bool.and_false, reduceIte, List.append_nil, reduceCtorEq]
      simp [fr4, l1]

def tr_l2Sum : Tr :=
  (.evs [.call 0 [(.var 0), (.var 1), (.var 2)] none 1,
    .call 0 [(.var 4), (.var 5), (.var 6)] (some (.not (.not (.var 7)))) 1]
  (.ite (.ite (.not (.var 7)) (.bool true) (.not (.var 8)))
  (.ret [(.int .i64 0), (.int .i64 0), (.int .i64 0), (.bool false)])
  (.evs [.call 1 [(.ar .add .i64 (.ar .mul .i64 (.var 0) (.var 6)) (.ar .mul .i64 (.ar .mul .i64 (.var 3) (.var 4)) (.var 2))), (.ar .add .i64 (.ar .mul .i64 (.var 1) (.var 6)) (.ar .mul .i64 (.ar .mul .i64 (.var 3) (.var 5)) (.var 2))), (.ar .mul .i64 (.var 2) (.var 6))] none 4]
   (.ret [(.var 9), (.var 10), (.var 11), (.var 12)]))))
def Fs_l2Sum : List Fun1 := [G_sFracValid, G_l2Low]
def F_l2Sum : Fun1 := ofTree Fs_l2Sum tr_l2Sum
def G_l2Sum : Fun1 := ⟨fun ins => i0 ins 3 = 1 ∨ i0 ins 3 = -1, fun ins => fr4 (if i0 ins 3 = 1 then addQ (q3 ins 0) (q3 ins 4) else lessQ (q3 ins 0) (q3 ins 4))⟩
theorem as_l2Sum (ins : List Value) (ht : TypedL [.int .i64, .int .i64, .int .i64, .int .i64, .int .i64, .int .i64, .int .i64] ins) (hp : G_l2Sum.pre ins) : F_l2Sum.pre ins ∧ F_l2Sum.out ins = G_l2Sum.out ins := by
  obtain ⟨a, r1, rfl, w1, ht1⟩ := int_cons ht
  obtain ⟨b, c, s, x, y, z, rfl, _⟩ := ints6 ht1
  have hs : s = 1 ∨ s = -1 := hp
  clear hp
  cases h : validI a b c
  · rcases hs with rfl | rfl <;>
    · simp only [F_l2Sum, G_l2Sum, tr_l2Sum, Fs_l2Sum, G_sFracValid, G_l2Low, addQ, lessQ, validQ, q3, arI, h, ofTree, okT, okE, evalT, evalE, evsIn, ev, callF, preF, hasF, needs, i0, b0, toI_int, toB_bool, List.getD_cons_zero, List.getD_cons_succ, List.cons_append, List.nil_append, List.replicate, if_true, if_false, Bool.false_eq_true, and_true, true_and, implies_true, forall_const, false_implies, cmpI, Bool.not_true, Bool.not_false, Bool.true_and, Bool.false_and, Bool.and_true, Bool.and_false, reduceIte, List.append_nil, reduceCtorEq]
      simp [fr4, zq]
  · cases k : validI x y z
    · rcases hs with rfl | rfl <;>
      · simp only [F_l2Sum, G_l2Sum, tr_l2Sum, Fs_l2Sum, G_sFracValid, G_l2Low, addQ, lessQ, validQ, q3, arI, h, k, ofTree, okT, okE, evalT, evalE, evsIn, ev, callF, preF, hasF, needs, i0, b0, toI_int, toB_bool, List.getD_cons_zero, List.getD_cons_succ, List.cons_append, List.nil_append, List.replicate, if_true, if_false, Bool.false_eq_true, and_true, true_and, implies_true, forall_const, false_implies, cmpI, Bool.not_true, Bool.not_false, Bool.true_and, Bool.false_and, Bool.and_true, Bool.and_false, reduceIte, List.append_nil, reduceCtorEq]
        simp [fr4, zq]
    · obtain ⟨e1, e2, e3, e4, e5, e6, e7, e8, e9, l1, l2⟩ := sum_facts h k
      obtain ⟨k1, k2, _⟩ := valid_bounds k
      rcases hs with rfl | rfl
      · have u1 : IntKind.i64.wrap (1 * x) = x := by rw [Int.one_mul]; exact wrap_in (by omega)
        have u2 : IntKind.i64.wrap (1 * y) = y := by rw [Int.one_mul]; exact wrap_in (by omega)
        simp only [F_l2Sum, G_l2Sum, tr_l2Sum, Fs_l2Sum, G_sFracValid, G_l2Low, addQ, lessQ, validQ, q3, arI, h, k, u1, u2, e1, e2, e3, e4, e5, e6, e7, ofTree, okT, okE, evalT, evalE, evsIn, ev, callF, preF, hasF, needs, i0, b0, toI_int, toB_bool, List.getD_cons_zero, List.getD_cons_succ, List.cons_append, List.nil_append, List.replicate, if_true, if_false, Bool.false_eq_true, and_true, true_and, implies_true, forall_const, false_implies, cmpI, Bool.not_true, Bool.not_false, Bool.true_and, Bool.false_and, Bool.and_true, Bool.and_false, reduceIte, List.append_nil, reduceCtorEq]
        simp [fr4, l1]
      · have u1 : IntKind.i64.wrap (-1 * x) = -x := by rw [Int.neg_one_mul]; exact wrap_in (by omega)
        have u2 : IntKind.i64.wrap (-1 * y) = -y := by rw [Int.neg_one_mul]; exact wrap_in (by omega)
        have m2 := mulB k1 (b := c) (by have := valid_bounds h; omega)
        have m4 := mulB k2 (b := c) (by have := valid_bounds h; omega)
        have v1 : IntKind.i64.wrap (-x * c) = -(x * c) := by rw [Int.neg_mul]; exact wrap_in (by omega)
        have v2 : IntKind.i64.wrap (-y * c) = -(y * c) := by rw [Int.neg_mul]; exact wrap_in (by omega)
        have v3 : IntKind.i64.wrap (a * z + -(x * c)) = a * z - x * c := by rw [← Int.sub_eq_add_neg]; exact e8
        have v4 : IntKind.i64.wrap (b * z + -(y * c)) = b * z - y * c := by rw [← Int.sub_eq_add_neg]; exact e9
        simp only [F_l2Sum, G_l2Sum, tr_l2Sum, Fs_l2Sum, G_sFracValid, G_l2Low, addQ, lessQ, validQ, q3, arI, h, k, u1, u2, v1, v2, v3, v4, e1, e3, e5, ofTree, okT, okE, evalT, evalE, evsIn, ev, callF, preF, hasF, needs, i0, b0, toI_int, toB_bool, List.getD_cons_zero, List.getD_cons_succ, List.cons_append, List.nil_append, List.replicate, if_true, if_false, Bool.false_eq_true, and_true, true_and, implies_true, forall_const, false_implies, cmpI, Bool.not_true, Bool.not_false, Bool.true_and, Bool.false_and, Bool.and_true, Bool.and_false, reduceIte, List.append_nil, reduceCtorEq]
        simp [fr4, l2]

def tr_sFracAdd : Tr :=
  (.evs [.call 0 [(.var 0), (.var 1), (.var 2), (.int .i64 1), (.var 3), (.var 4), (.var 5)] none 4]
  (.ret [(.var 6), (.var 7), (.var 8), (.var 9)]))
def Fs_sFracAdd : List Fun1 := [G_l2Sum]
def F_sFracAdd : Fun1 := ofTree Fs_sFracAdd tr_sFracAdd
def G_sFracAdd : Fun1 := ⟨fun _ => True, fun ins => fr4 (addQ (q3 ins 0) (q3 ins 3))⟩
theorem as_sFracAdd (ins : List Value) (ht : TypedL [.int .i64, .int .i64, .int .i64, .int .i64, .int .i64, .int .i64] ins) (_ : G_sFracAdd.pre ins) : F_sFracAdd.pre ins ∧ F_sFracAdd.out ins = G_sFracAdd.out ins := by
  obtain ⟨a, b, c, x, y, z, rfl, _⟩ := ints6 ht
  exact ⟨⟨⟨.inl rfl, trivial⟩, trivial⟩, rfl⟩
def A_sFracAdd : AF := aAny 4
theorem aok_sFracAdd {cb : CodeB} : AOK cb G_sFracAdd A_sFracAdd := aAny_ok (fun _ => trivial) (fun ins => by rfl)

def tr_sFracTimes : Tr :=
  (.evs [.call 0 [(.var 0), (.var 1), (.var 2)] none 1,
    .call 0 [(.var 3), (.var 4), (.var 5)] (some (.not (.not (.var 6)))) 1]
  (.ite (.ite (.not (.var 6)) (.bool true) (.not (.var 7)))
  (.ret [(.int .i64 0), (.int .i64 0), (.int .i64 0), (.bool false)])
  (.evs [.call 1 [(.ar .sub .i64 (.ar .mul .i64 (.var 0) (.var 3)) (.ar .mul .i64 (.var 1) (.var 4))), (.ar .add .i64 (.ar .mul .i64 (.var 0) (.var 4)) (.ar .mul .i64 (.var 1) (.var 3))), (.ar .mul .i64 (.var 2) (.var 5))] none 4]
   (.ret [(.var 8), (.var 9), (.var 10), (.var 11)]))))
def Fs_sFracTimes : List Fun1 := [G_sFracValid, G_l2Low]
def F_sFracTimes : Fun1 := ofTree Fs_sFracTimes tr_sFracTimes
def G_sFracTimes : Fun1 := ⟨fun _ => True, fun ins => fr4 (timesQ (q3 ins 0) (q3 ins 3))⟩
theorem as_sFracTimes (ins : List Value) (ht : TypedL [.int .i64, .int .i64, .int .i64, .int .i64, .int .i64, .int .i64] ins) (_ : G_sFracTimes.pre ins) : F_sFracTimes.pre ins ∧ F_sFracTimes.out ins = G_sFracTimes.out ins := by
  obtain ⟨a, b, c, x, y, z, rfl, _⟩ := ints6 ht
  simp only [F_sFracTimes, G_sFracTimes, tr_sFracTimes, Fs_sFracTimes, G_sFracValid, G_l2Low, timesQ, validQ, q3, arI, ofTree, okT, okE, evalT, evalE, evsIn, ev, callF, preF, hasF, needs, i0, b0, toI_int, toB_bool, List.getD_cons_zero, List.getD_cons_succ, List.cons_append, List.nil_append, List.replicate, if_true, if_false, Bool.false_eq_true, and_true, true_and, implies_true, forall_const, false_implies, cmpI, Bool.not_true, Bool.not_false, Bool.true_and, Bool.false_and, Bool.and_true, Bool.and_false, reduceIte, List.append_nil, reduceCtorEq]
  cases h : validI a b c
  · simp [h, fr4, zq]
  · cases k : validI x y z
    · simp [h, k, fr4, zq]
    · obtain ⟨e1, e2, e3, e4, e5, e6, e7, l1⟩ := mul_facts h k
      simp only [h, k, e1, e2, e3, e4, e5, e6, e7, ofTree, okT, okE, evalT, evalE, evsIn, ev, callF, preF, hasF, needs, i0, b0, toI_int, toB_bool, List.getD_cons_zero, List.getD_cons_succ, List.cons_append, List.nil_append, List.replicate, if_true, if_false, Bool.false_eq_true, and_true, true_and, implies_true, forall_const, false_implies, cmpI, Bool.not_true, Bool.not_false, Bool.true_and, Bool.false_and, Bool.and_true, Bool.and_false, reduceIte, List.append_nil, reduceCtorEq]
      simp [fr4, l1]
def A_sFracTimes : AF := aAny 4
theorem aok_sFracTimes {cb : CodeB} : AOK cb G_sFracTimes A_sFracTimes := aAny_ok (fun _ => trivial) (fun ins => by rfl)

def tr_keep : Tr :=
  (.ite (.not (.var 3))
  (.ret [(.int .i64 0), (.int .i64 0), (.int .i64 0), (.bool true)])
  (.ret [(.var 0), (.var 1), (.var 2), (.var 4)]))
def Fs_keep : List Fun1 := []
def F_keep : Fun1 := ofTree Fs_keep tr_keep

def tr_add : Tr :=
  (.evs [.call 0 [(.var 0), (.var 1), (.var 2), (.var 3), (.var 4), (.var 5)] none 4,
    .call 1 [(.var 7), (.var 8), (.var 9), (.var 10), (.var 6)] none 4]
  (.ret [(.var 11), (.var 12), (.var 13), (.var 14)]))
def Fs_add : List Fun1 := [G_iFracAdd, F_keep]
def F_add : Fun1 := ofTree Fs_add tr_add
def G_add : Fun1 := ⟨fun _ => True, fun ins => fr3 (addQ (q3 ins 0) (q3 ins 3)) ++ [.bool (b0 ins 6 || !(addQ (q3 ins 0) (q3 ins 3)).isSome)]⟩
theorem as_add (ins : List Value) (ht : TypedL [.int .i64, .int .i64, .int .i64, .int .i64, .int .i64, .int .i64, .bool] ins) (_ : G_add.pre ins) : F_add.pre ins ∧ F_add.out ins = G_add.out ins := by
  obtain ⟨a, r1, rfl, _, ht1⟩ := int_cons ht
  obtain ⟨b, r2, rfl, _, ht2⟩ := int_cons ht1
  obtain ⟨c, r3, rfl, _, ht3⟩ := int_cons ht2
  obtain ⟨x, r4, rfl, _, ht4⟩ := int_cons ht3
  obtain ⟨y, r5, rfl, _, ht5⟩ := int_cons ht4
  obtain ⟨z, r6, rfl, _, ht6⟩ := int_cons ht5
  obtain ⟨t, r7, rfl, ht7⟩ := bool_cons ht6
  obtain rfl := ints0 ht7
  simp only [F_add, G_add, tr_add, Fs_add, G_iFracAdd, F_keep, tr_keep, Fs_keep, q3, fr4, fr3, ofTree, okT, okE, evalT, evalE, evsIn, ev, callF, preF, hasF, needs, i0, b0, toI_int, toB_bool, List.getD_cons_zero, List.getD_cons_succ, List.cons_append, List.nil_append, List.replicate, if_true, if_false, Bool.false_eq_true, and_true, true_and, implies_true, forall_const, false_implies, cmpI, Bool.not_true, Bool.not_false, Bool.true_and, Bool.false_and, Bool.and_true, Bool.and_false, reduceIte, List.append_nil, reduceCtorEq]
  cases h : addQ (a, b, c) (x, y, z) <;> simp [zq]

def tr_times : Tr :=
  (.evs [.call 0 [(.var 0), (.var 1), (.var 2), (.var 3), (.var 4), (.var 5)] none 4,
    .call 1 [(.var 7), (.var 8), (.var 9), (.var 10), (.var 6)] none 4]
  (.ret [(.var 11), (.var 12), (.var 13), (.var 14)]))
def Fs_times : List Fun1 := [G_iFracTimes, F_keep]
def F_times : Fun1 := ofTree Fs_times tr_times
def G_times : Fun1 := ⟨fun _ => True, fun ins => fr3 (timesQ (q3 ins 0) (q3 ins 3)) ++ [.bool (b0 ins 6 || !(timesQ (q3 ins 0) (q3 ins 3)).isSome)]⟩
theorem as_times (ins : List Value) (ht : TypedL [.int .i64, .int .i64, .int .i64, .int .i64, .int .i64, .int .i64, .bool] ins) (_ : G_times.pre ins) : F_times.pre ins ∧ F_times.out ins = G_times.out ins := by
  obtain ⟨a, r1, rfl, _, ht1⟩ := int_cons ht
  obtain ⟨b, r2, rfl, _, ht2⟩ := int_cons ht1
  obtain ⟨c, r3, rfl, _, ht3⟩ := int_cons ht2
  obtain ⟨x, r4, rfl, _, ht4⟩ := int_cons ht3
  obtain ⟨y, r5, rfl, _, ht5⟩ := int_cons ht4
  obtain ⟨z, r6, rfl, _, ht6⟩ := int_cons ht5
  obtain ⟨t, r7, rfl, ht7⟩ := bool_cons ht6
  obtain rfl := ints0 ht7
  simp only [F_times, G_times, tr_times, Fs_times, G_iFracTimes, F_keep, tr_keep, Fs_keep, q3, fr4, fr3, ofTree, okT, okE, evalT, evalE, evsIn, ev, callF, preF, hasF, needs, i0, b0, toI_int, toB_bool, List.getD_cons_zero, List.getD_cons_succ, List.cons_append, List.nil_append, List.replicate, if_true, if_false, Bool.false_eq_true, and_true, true_and, implies_true, forall_const, false_implies, cmpI, Bool.not_true, Bool.not_false, Bool.true_and, Bool.false_and, Bool.and_true, Bool.and_false, reduceIte, List.append_nil, reduceCtorEq]
  cases h : timesQ (a, b, c) (x, y, z) <;> simp [zq]

def tr_need : Tr :=
  (.ite (.not (.var 0))
  (.ret [(.bool true)])
  (.ret [(.var 1)]))
def Fs_need : List Fun1 := []
def F_need : Fun1 := ofTree Fs_need tr_need
def G_need : Fun1 := ⟨fun _ => True, fun ins => [.bool (b0 ins 1 || !b0 ins 0)]⟩
theorem as_need (ins : List Value) (ht : TypedL [.bool, .bool] ins) (_ : G_need.pre ins) : F_need.pre ins ∧ F_need.out ins = G_need.out ins := by
  obtain ⟨s, r1, rfl, ht1⟩ := bool_cons ht
  obtain ⟨t, r2, rfl, ht2⟩ := bool_cons ht1
  obtain rfl := ints0 ht2
  simp only [F_need, G_need, tr_need, Fs_need, ofTree, okT, okE, evalT, evalE, evsIn, ev, callF, preF, hasF, needs, i0, b0, toI_int, toB_bool, List.getD_cons_zero, List.getD_cons_succ, List.cons_append, List.nil_append, List.replicate, if_true, if_false, Bool.false_eq_true, and_true, true_and, implies_true, forall_const, false_implies, cmpI, Bool.not_true, Bool.not_false, Bool.true_and, Bool.false_and, Bool.and_true, Bool.and_false, reduceIte, List.append_nil, reduceCtorEq]
  cases s <;> cases t <;> simp

def tr_l3Inner : Tr :=
  (.evs [.call 0 [(.var 0), (.var 1), (.var 2), (.var 3), (.var 4), (.var 5)] none 4]
  (.evs [.call 0 [(.var 6), (.var 7), (.var 8), (.var 9), (.var 10), (.var 11)] none 4]
  (.ite (.ite (.not (.var 15)) (.bool true) (.not (.var 19)))
  (.ret [(.int .i64 0), (.int .i64 0), (.int .i64 0), (.bool false)])
  (.evs [.call 1 [(.var 12), (.var 13), (.var 14), (.var 16), (.var 17), (.var 18)] none 4]
   (.ret [(.var 20), (.var 21), (.var 22), (.var 23)])))))
def Fs_l3Inner : List Fun1 := [G_sFracTimes, G_sFracAdd]
def F_l3Inner : Fun1 := ofTree Fs_l3Inner tr_l3Inner
def G_l3Inner : Fun1 := ⟨fun _ => True, fun ins => fr4 (mixQ (q3 ins 0) (q3 ins 3) (q3 ins 6) (q3 ins 9))⟩
theorem as_l3Inner (ins : List Value) (ht : TypedL (intTs 12 ++ []) ins) (_ : G_l3Inner.pre ins) : F_l3Inner.pre ins ∧ F_l3Inner.out ins = G_l3Inner.out ins := by
  obtain ⟨g, r, rfl, h1, _⟩ := ints_lit 12 0 ht
  obtain rfl := ints0 h1
  rw [List.append_nil]
  simp only [ivs, F_l3Inner, G_l3Inner, tr_l3Inner, Fs_l3Inner, G_sFracTimes, G_sFracAdd, mixQ, q3, fr4, ofTree, okT, okE, evalT, evalE, evsIn, ev, callF, preF, hasF, needs, i0, b0, toI_int, toB_bool, List.getD_cons_zero, List.getD_cons_succ, List.cons_append, List.nil_append, List.replicate, if_true, if_false, Bool.false_eq_true, and_true, true_and, implies_true, forall_const, false_implies, cmpI, Bool.not_true, Bool.not_false, Bool.true_and, Bool.false_and, Bool.and_true, Bool.and_false, reduceIte, List.append_nil, reduceCtorEq]
  cases h1 : timesQ (g 0, g (0 + 1), g (0 + 1 + 1)) (g (0 + 1 + 1 + 1), g (0 + 1 + 1 + 1 + 1), g (0 + 1 + 1 + 1 + 1 + 1)) with
  | none => simp [zq]
  | some x =>
    cases h2 : timesQ (g (0 + 1 + 1 + 1 + 1 + 1 + 1), g (0 + 1 + 1 + 1 + 1 + 1 + 1 + 1), g (0 + 1 + 1 + 1 + 1 + 1 + 1 + 1 + 1)) (g (0 + 1 + 1 + 1 + 1 + 1 + 1 + 1 + 1 + 1), g (0 + 1 + 1 + 1 + 1 + 1 + 1 + 1 + 1 + 1 + 1), g (0 + 1 + 1 + 1 + 1 + 1 + 1 + 1 + 1 + 1 + 1 + 1)) with
    | none => simp [zq]
    | some y => simp

def tr_iMatValid : Tr :=
  (.evs [.call 0 [(.var 0), (.var 1), (.var 2)] none 1]
  (.ite (.not (.var 12))
  (.ret [(.bool false)])
  (.evs [.call 0 [(.var 3), (.var 4), (.var 5)] none 1]
   (.ite (.not (.var 13))
   (.ret [(.bool false)])
   (.evs [.call 0 [(.var 6), (.var 7), (.var 8)] none 1]
    (.ite (.not (.var 14))
    (.ret [(.bool false)])
    (.evs [.call 0 [(.var 9), (.var 10), (.var 11)] none 1]
     (.ite (.not (.var 15))
     (.ret [(.bool false)])
     (.ret [(.bool true)])))))))))
def Fs_iMatValid : List Fun1 := [G_iFracValid]
def F_iMatValid : Fun1 := ofTree Fs_iMatValid tr_iMatValid
def G_iMatValid : Fun1 := ⟨fun _ => True, fun ins => [.bool (matQ fun k => q3 ins (3 * k))]⟩
theorem out_iMatValid : (fun (g : Nat → Int) => F_iMatValid.out (ivs g 0 12)) = fun g => nestC (fun k => .bool (!validQ (q3 (ivs g 0 12) (3 * k)))) 0 4 := by kernel_rfl
theorem as_iMatValid (ins : List Value) (ht : TypedL (intTs 12 ++ []) ins) (_ : G_iMatValid.pre ins) : F_iMatValid.pre ins ∧ F_iMatValid.out ins = G_iMatValid.out ins := by
  obtain ⟨g, r, rfl, h1, _⟩ := ints_lit 12 0 ht
  obtain rfl := ints0 h1
  rw [List.append_nil]
  refine ⟨okT_free (by intro F hF ins; simp only [Fs_iMatValid, List.mem_singleton] at hF; rw [hF]; trivial) _ _ (by kernel_rfl), (congrFun out_iMatValid g).trans ?_⟩
  exact nestC_eq (fun k => rfl) 4 0

def tr_sMatValid : Tr :=
  (.evs [.call 0 [(.var 0), (.var 1), (.var 2)] none 1]
  (.ite (.not (.var 12))
  (.ret [(.bool false)])
  (.evs [.call 0 [(.var 3), (.var 4), (.var 5)] none 1]
   (.ite (.not (.var 13))
   (.ret [(.bool false)])
   (.evs [.call 0 [(.var 6), (.var 7), (.var 8)] none 1]
    (.ite (.not (.var 14))
    (.ret [(.bool false)])
    (.evs [.call 0 [(.var 9), (.var 10), (.var 11)] none 1]
     (.ite (.not (.var 15))
     (.ret [(.bool false)])
     (.ret [(.bool true)])))))))))
def Fs_sMatValid : List Fun1 := [G_sFracValid]
def F_sMatValid : Fun1 := ofTree Fs_sMatValid tr_sMatValid
def G_sMatValid : Fun1 := ⟨fun _ => True, fun ins => [.bool (matQ fun k => q3 ins (3 * k))]⟩
theorem out_sMatValid : (fun (g : Nat → Int) => F_sMatValid.out (ivs g 0 12)) = fun g => nestC (fun k => .bool (!validQ (q3 (ivs g 0 12) (3 * k)))) 0 4 := by kernel_rfl
theorem as_sMatValid (ins : List Value) (ht : TypedL (intTs 12 ++ []) ins) (_ : G_sMatValid.pre ins) : F_sMatValid.pre ins ∧ F_sMatValid.out ins = G_sMatValid.out ins := by
  obtain ⟨g, r, rfl, h1, _⟩ := ints_lit 12 0 ht
  obtain rfl := ints0 h1
  rw [List.append_nil]
  refine ⟨okT_free (by intro F hF ins; simp only [Fs_sMatValid, List.mem_singleton] at hF; rw [hF]; trivial) _ _ (by kernel_rfl), (congrFun out_sMatValid g).trans ?_⟩
  exact nestC_eq (fun k => rfl) 4 0

def tr_iFracLess : Tr :=
  (.evs [.call 0 [(.var 0), (.var 1), (.var 2)] none 1,
    .call 0 [(.var 3), (.var 4), (.var 5)] (some (.not (.not (.var 6)))) 1]
  (.ite (.ite (.not (.var 6)) (.bool true) (.not (.var 7)))
  (.ret [(.int .i64 0), (.int .i64 0), (.int .i64 0), (.bool false)])
  (.evs [.call 1 [(.ar .sub .i64 (.ar .mul .i64 (.var 0) (.var 5)) (.ar .mul .i64 (.var 3) (.var 2))), (.ar .sub .i64 (.ar .mul .i64 (.var 1) (.var 5)) (.ar .mul .i64 (.var 4) (.var 2))), (.ar .mul .i64 (.var 2) (.var 5))] none 4]
   (.ret [(.var 8), (.var 9), (.var 10), (.var 11)]))))
def Fs_iFracLess : List Fun1 := [G_iFracValid, G_lowest]
def F_iFracLess : Fun1 := ofTree Fs_iFracLess tr_iFracLess
def G_iFracLess : Fun1 := ⟨fun _ => True, fun ins => fr4 (lessQ (q3 ins 0) (q3 ins 3))⟩
theorem as_iFracLess (ins : List Value) (ht : TypedL [.int .i64, .int .i64, .int .i64, .int .i64, .int .i64, .int .i64] ins) (_ : G_iFracLess.pre ins) : F_iFracLess.pre ins ∧ F_iFracLess.out ins = G_iFracLess.out ins := by
  obtain ⟨a, b, c, x, y, z, rfl, _⟩ := ints6 ht
  simp only [F_iFracLess, G_iFracLess, tr_iFracLess, Fs_iFracLess, G_iFracValid, G_lowest, lessQ, validQ, q3, arI, ofTree, okT, okE, evalT, evalE, evsIn, ev, callF, preF, hasF, needs, i0, b0, toI_int, toB_bool, List.getD_cons_zero, List.getD_cons_succ, List.cons_append, List.nil_append, List.replicate, if_true, if_false, Bool.false_eq_true, and_true, true_and, implies_true, forall_const, false_implies, cmpI, Bool.not_true, Bool.not_false, Bool.true_and, Bool.false_and, Bool.and_true, Bool.and_false, reduceIte, List.append_nil, reduceCtorEq]
  cases h : validI a b c
  · simp [h, fr4, zq]
  · cases k : validI x y z
    · simp [h, k, fr4, zq]
    · obtain ⟨e1, e2, e3, e4, e5, e6, e7, e8, e9, l1, l2⟩ := sum_facts h k
      simp only [h, k, e1, e2, e3, e4, e5, e8, e9, ofTree, okT, okE, evalT, evalE, evsIn, ev, callF, preF, hasF, needs, i0, b0, toI_int, toB_bool, List.getD_cons_zero, List.getD_cons_succ, List.cons_append, List.nil_append, List.replicate, if_true, if_false, Bool.false_eq_true, and_true, true_and, implies_true, forall_const, false_implies, cmpI, Bool.not_true, Bool.not_false, Bool.true_and, Bool.false_and, Bool.and_true, Bool.and_false, reduceIte, List.append_nil, reduceCtorEq]
      simp [fr4, l2]

def tr_less : Tr :=
  (.evs [.call 0 [(.var 0), (.var 1), (.var 2), (.var 3), (.var 4), (.var 5)] none 4,
    .call 1 [(.var 7), (.var 8), (.var 9), (.var 10), (.var 6)] none 4]
  (.ret [(.var 11), (.var 12), (.var 13), (.var 14)]))
def Fs_less : List Fun1 := [G_iFracLess, F_keep]
def F_less : Fun1 := ofTree Fs_less tr_less
def G_less : Fun1 := ⟨fun _ => True, fun ins => fr3 (lessQ (q3 ins 0) (q3 ins 3)) ++ [.bool (b0 ins 6 || !(lessQ (q3 ins 0) (q3 ins 3)).isSome)]⟩
theorem as_less (ins : List Value) (ht : TypedL [.int .i64, .int .i64, .int .i64, .int .i64, .int .i64, .int .i64, .bool] ins) (_ : G_less.pre ins) : F_less.pre ins ∧ F_less.out ins = G_less.out ins := by
  obtain ⟨a, r1, rfl, _, ht1⟩ := int_cons ht
  obtain ⟨b, r2, rfl, _, ht2⟩ := int_cons ht1
  obtain ⟨c, r3, rfl, _, ht3⟩ := int_cons ht2
  obtain ⟨x, r4, rfl, _, ht4⟩ := int_cons ht3
  obtain ⟨y, r5, rfl, _, ht5⟩ := int_cons ht4
  obtain ⟨z, r6, rfl, _, ht6⟩ := int_cons ht5
  obtain ⟨t, r7, rfl, ht7⟩ := bool_cons ht6
  obtain rfl := ints0 ht7
  simp only [F_less, G_less, tr_less, Fs_less, G_iFracLess, F_keep, tr_keep, Fs_keep, q3, fr4, fr3, ofTree, okT, okE, evalT, evalE, evsIn, ev, callF, preF, hasF, needs, i0, b0, toI_int, toB_bool, List.getD_cons_zero, List.getD_cons_succ, List.cons_append, List.nil_append, List.replicate, if_true, if_false, Bool.false_eq_true, and_true, true_and, implies_true, forall_const, false_implies, cmpI, Bool.not_true, Bool.not_false, Bool.true_and, Bool.false_and, Bool.and_true, Bool.and_false, reduceIte, List.append_nil, reduceCtorEq]
  cases h : lessQ (a, b, c) (x, y, z) <;> simp [zq]

def tr_indexOk : Tr :=
  (.evs [.call 0 [(.var 0), (.var 1), (.var 2)] none 1]
  (.ret [(.ite (.var 3) (.not (.ite (.cmp .eql (.var 0) (.int .i64 0)) (.ite (.cmp .eql (.var 1) (.int .i64 0)) (.cmp .eql (.var 2) (.int .i64 1)) (.bool false)) (.bool false))) (.bool false))]))
def Fs_indexOk : List Fun1 := [G_iFracValid]
def F_indexOk : Fun1 := ofTree Fs_indexOk tr_indexOk
def G_indexOk : Fun1 := ⟨fun _ => True, fun ins => [.bool (idxQ (q3 ins 0))]⟩
theorem as_indexOk (ins : List Value) (ht : TypedL [.int .i64, .int .i64, .int .i64] ins) (_ : G_indexOk.pre ins) : F_indexOk.pre ins ∧ F_indexOk.out ins = G_indexOk.out ins := by
  obtain ⟨a, b, c, rfl, _⟩ := ints3 ht
  simp only [F_indexOk, G_indexOk, tr_indexOk, Fs_indexOk, G_iFracValid, idxQ, validQ, q3, ofTree, okT, okE, evalT, evalE, evsIn, ev, callF, preF, hasF, needs, i0, b0, toI_int, toB_bool, List.getD_cons_zero, List.getD_cons_succ, List.cons_append, List.nil_append, List.replicate, if_true, if_false, Bool.false_eq_true, and_true, true_and, implies_true, forall_const, false_implies, cmpI, Bool.not_true, Bool.not_false, Bool.true_and, Bool.false_and, Bool.and_true, Bool.and_false, reduceIte, List.append_nil, reduceCtorEq]
  cases h : validI a b c
  · simp
  · by_cases ha : a = 0
    · by_cases hb : b = 0
      · subst ha; subst hb
        simp [nil_den h]
      · simp [ha, hb]
    · simp [ha]

def tr_iFilmValid : Tr :=
  (.lp 0 [(.int .i64 0)] [.int .i64]
  (.ite (.cmp .lss (.var 2) (.len (.var 0)))
   (.evs [.need [(.inb (.var 1) (.var 2) 4)]]
    (.evs [.call 0 [(.sel (.var 1) (.var 2) 4 0), (.sel (.var 1) (.var 2) 4 1), (.sel (.var 1) (.var 2) 4 2)] none 1,
      .call 1 [(.sel (.var 1) (.var 2) 4 3), (.int .i64 0), (.int .i64 3)] (some (.not (.not (.var 3)))) 1]
    (.ite (.ite (.not (.var 3)) (.bool true) (.not (.var 4)))
    (.ret [(.bool false)])
    (.next 0 [(.ar .add .i64 (.var 2) (.int .i64 1))]))))
   (.ret [(.cmp .leq (.len (.var 0)) (.int .i64 8))])))
def Fs_iFilmValid : List Fun1 := [G_indexOk, G_within]
def layP (c : Value) (k : Nat) : Bool := idxQ (rq c k 0, rq c k 1, rq c k 2) && inRg (rq c k 3) 0 3
def F_iFilmValid : Fun1 := ⟨fun ins => Fit4 (ins.getD 0 undef) (ins.getD 1 undef), fun ins => [.bool (allB (layP (ins.getD 1 undef)) 0 (rlen (ins.getD 0 undef)) && decide (lenV (ins.getD 0 undef) ≤ 8))]⟩
theorem sat_iFilmValid (P : Program) (ins : List Value) (K : List Value → Prop) (ht : TypedL [.sl, .row .i64 4] ins) (hp : F_iFilmValid.pre ins) (hK : K (F_iFilmValid.out ins)) : sat P (specsOf Fs_iFilmValid) tr_iFilmValid ins [] K := by
  obtain ⟨x, c, rfl, hx, hcT⟩ := two_of ht
  obtain ⟨a, n, cap, rfl, hc, hn⟩ : Fit4 x c := hp
  refine ⟨fun vs => ∃ k : Nat, vs = [.int .i64 k] ∧ k ≤ n ∧ allB (layP c) 0 k = true, fun vs => n - (toI (vs.getD 0 undef)).toNat, ⟨0, rfl, Nat.zero_le _, rfl⟩, ?_⟩
  rintro vs hty ⟨k, rfl, hk, hall⟩
  refine ⟨fun h => ?_, fun h => ?_⟩
  · have hlt : k < n := by
      have : decide ((k : Int) < (n : Int)) = true := Value.bool.inj h
      simpa using this
    have hin := inb_ok hc hlt
    refine ⟨fun e he => by rw [List.mem_singleton.1 he]; exact hin, trivial, ?_⟩
    show evSat P _ _ ([Value.slice a n cap, c, .int .i64 k] ++ [.bool (idxQ (rq c k 0, rq c k 1, rq c k 2))]) _
    have bad : layP c k = false → K [.bool false] := fun hs => by
      have e : F_iFilmValid.out [.slice a n cap, c] = [.bool false] := by
        show [Value.bool (allB (layP c) 0 n && _)] = _
        rw [allB_not hlt hs, Bool.false_and]
      rw [e] at hK
      exact hK
    have hlay : layP c k = (idxQ (rq c k 0, rq c k 1, rq c k 2) && inRg (rq c k 3) 0 3) := rfl
    cases hi : idxQ (rq c k 0, rq c k 1, rq c k 2) with
    | false => exact ⟨fun h2 => (by cases h2), fun _ => ⟨fun _ => bad (by rw [hlay, hi]; rfl), fun h2 => (by cases h2)⟩⟩
    | true =>
      refine ⟨fun _ => ⟨trivial, ?_⟩, fun h2 => (by cases h2)⟩
      show sat P _ _ ([Value.slice a n cap, c, .int .i64 k, .bool true] ++ [.bool (inRg (rq c k 3) 0 3)]) _ K
      cases h3 : inRg (rq c k 3) 0 3 with
      | false => exact ⟨fun _ => bad (by rw [hlay, hi, h3]; rfl), fun h2 => (by cases h2)⟩
      | true =>
        have hs : layP c k = true := by rw [hlay, hi, h3]; rfl
        refine ⟨fun h2 => (by cases h2), fun _ => ?_⟩
        · refine ⟨⟨k + 1, congrArg (fun z => [Value.int .i64 z]) (wrap_next hlt hn), by omega, ?_⟩, ?_⟩
          · rw [allB_snoc, hall, Nat.zero_add]; exact hs
          · show n - (toI (.int .i64 (IntKind.i64.wrap ((k : Int) + 1)))).toNat < n - (toI (.int .i64 (k : Int))).toNat
            rw [wrap_next hlt hn]
            simp only [toI_int, Int.toNat_natCast]
            omega
  · have hge : ¬ k < n := by
      have : decide ((k : Int) < (n : Int)) = false := Value.bool.inj h
      simpa using this
    have hkn : k = n := by omega
    subst hkn
    have e : F_iFilmValid.out [.slice a k cap, c] = [.bool (decide ((k : Int) ≤ 8))] := by
      show [Value.bool (allB (layP c) 0 k && decide ((k : Int) ≤ 8))] = _
      rw [hall, Bool.true_and]
    rw [e] at hK
    exact hK

def tr_sFilmValid : Tr :=
  (.lp 0 [(.int .i64 0)] [.int .i64]
  (.ite (.cmp .lss (.var 2) (.len (.var 0)))
   (.evs [.need [(.inb (.var 1) (.var 2) 4)]]
    (.evs [.call 0 [(.sel (.var 1) (.var 2) 4 0), (.sel (.var 1) (.var 2) 4 1), (.sel (.var 1) (.var 2) 4 2)] none 1,
      .need [(.ite (.not (.ite (.not (.var 3)) (.bool true) (.ite (.cmp .eql (.sel (.var 1) (.var 2) 4 0) (.int .i64 0)) (.cmp .eql (.sel (.var 1) (.var 2) 4 1) (.int .i64 0)) (.bool false)))) (.inb (.var 1) (.var 2) 4) (.bool true))],
      .call 1 [(.sel (.var 1) (.var 2) 4 3), (.int .i64 0), (.int .i64 3)] (some (.not (.ite (.not (.var 3)) (.bool true) (.ite (.cmp .eql (.sel (.var 1) (.var 2) 4 0) (.int .i64 0)) (.cmp .eql (.sel (.var 1) (.var 2) 4 1) (.int .i64 0)) (.bool false))))) 1]
    (.ite (.ite (.ite (.not (.var 3)) (.bool true) (.ite (.cmp .eql (.sel (.var 1) (.var 2) 4 0) (.int .i64 0)) (.cmp .eql (.sel (.var 1) (.var 2) 4 1) (.int .i64 0)) (.bool false))) (.bool true) (.not (.var 4)))
    (.ret [(.bool false)])
    (.next 0 [(.ar .add .i64 (.var 2) (.int .i64 1))]))))
   (.ret [(.cmp .leq (.len (.var 0)) (.int .i64 8))])))
def Fs_sFilmValid : List Fun1 := [G_sFracValid, G_l6In]
def F_sFilmValid : Fun1 := F_iFilmValid
theorem sat_sFilmValid (P : Program) (ins : List Value) (K : List Value → Prop) (ht : TypedL [.sl, .row .i64 4] ins) (hp : F_sFilmValid.pre ins) (hK : K (F_sFilmValid.out ins)) : sat P (specsOf Fs_sFilmValid) tr_sFilmValid ins [] K := by
  obtain ⟨x, c, rfl, hx, hcT⟩ := two_of ht
  obtain ⟨a, n, cap, rfl, hc, hn⟩ : Fit4 x c := hp
  refine ⟨fun vs => ∃ k : Nat, vs = [.int .i64 k] ∧ k ≤ n ∧ allB (layP c) 0 k = true, fun vs => n - (toI (vs.getD 0 undef)).toNat, ⟨0, rfl, Nat.zero_le _, rfl⟩, ?_⟩
  rintro vs hty ⟨k, rfl, hk, hall⟩
  refine ⟨fun h => ?_, fun h => ?_⟩
  · have hlt : k < n := by
      have : decide ((k : Int) < (n : Int)) = true := Value.bool.inj h
      simpa using this
    have hin := inb_ok hc hlt
    refine ⟨fun e he => by rw [List.mem_singleton.1 he]; exact hin, trivial, ?_⟩
    show evSat P _ _ ([Value.slice a n cap, c, .int .i64 k] ++ [.bool (validQ (rq c k 0, rq c k 1, rq c k 2))]) _
    have bad : layP c k = false → K [.bool false] := fun hs => by
      have e : F_sFilmValid.out [.slice a n cap, c] = [.bool false] := by
        show [Value.bool (allB (layP c) 0 n && _)] = _
        rw [allB_not hlt hs, Bool.false_and]
      rw [e] at hK
      exact hK
    have hlay : layP c k = (idxQ (rq c k 0, rq c k 1, rq c k 2) && inRg (rq c k 3) 0 3) := rfl
    have hidx : idxQ (rq c k 0, rq c k 1, rq c k 2) = (validQ (rq c k 0, rq c k 1, rq c k 2) && !(rq c k 0 == 0 && rq c k 1 == 0)) := rfl
    cases hv : validQ (rq c k 0, rq c k 1, rq c k 2) with
    | false =>
      refine ⟨fun e he => by rw [List.mem_singleton.1 he]; rfl, ⟨fun h2 => (by cases h2), fun _ => ?_⟩⟩
      exact ⟨fun _ => bad (by rw [hlay, hidx, hv]; rfl), fun h2 => (by cases h2)⟩
    | true =>
      refine ⟨fun e he => ?_, ⟨fun h2 => ⟨trivial, ?_⟩, fun h2 => ?_⟩⟩
      · rw [List.mem_singleton.1 he]
        show (if (!andB (rq c k 0 == 0) (rq c k 1 == 0)) = true then _ else Value.bool true) = _
        split
        · exact hin
        · rfl
      · have h2 : (!andB (rq c k 0 == 0) (rq c k 1 == 0)) = true := h2
        rw [andB_eq] at h2
        have hz : (rq c k 0 == 0 && rq c k 1 == 0) = false := by
          cases hq : (rq c k 0 == 0 && rq c k 1 == 0) with
          | false => rfl
          | true => rw [hq] at h2; cases h2
        have hi : idxQ (rq c k 0, rq c k 1, rq c k 2) = true := by rw [hidx, hv, hz]; rfl
        show sat P _ _ ([Value.slice a n cap, c, .int .i64 k, .bool true] ++ [.bool (inRg (rq c k 3) 0 3)]) _ K
        have hc2 : ∀ x : Bool, toB (ev ([Value.slice a n cap, c, .int .i64 k, .bool true] ++ [.bool x]) (.ite (.ite (.not (.var 3)) (.bool true) (.ite (.cmp .eql (.sel (.var 1) (.var 2) 4 0) (.int .i64 0)) (.cmp .eql (.sel (.var 1) (.var 2) 4 1) (.int .i64 0)) (.bool false))) (.bool true) (.not (.var 4)))) = !x := fun x => by
          show toB (if andB (rq c k 0 == 0) (rq c k 1 == 0) = true then Value.bool true else .bool (!x)) = !x
          rw [andB_eq, hz]
          rfl
        cases h3 : inRg (rq c k 3) 0 3 with
        | false =>
          refine ⟨fun _ => bad (by rw [hlay, hi, h3]; rfl), fun h4 => ?_⟩
          have := hc2 false
          rw [h4] at this
          cases this
        | true =>
          have hs : layP c k = true := by rw [hlay, hi, h3]; rfl
          refine ⟨fun h4 => ?_, fun _ => ?_⟩
          · have := hc2 true
            rw [h4] at this
            cases this
          · refine ⟨⟨k + 1, congrArg (fun z => [Value.int .i64 z]) (wrap_next hlt hn), by omega, ?_⟩, ?_⟩
            · rw [allB_snoc, hall, Nat.zero_add]; exact hs
            · show n - (toI (.int .i64 (IntKind.i64.wrap ((k : Int) + 1)))).toNat < n - (toI (.int .i64 (k : Int))).toNat
              rw [wrap_next hlt hn]
              simp only [toI_int, Int.toNat_natCast]
              omega
      · have h2 : (!andB (rq c k 0 == 0) (rq c k 1 == 0)) = false := h2
        rw [andB_eq] at h2
        have hz : (rq c k 0 == 0 && rq c k 1 == 0) = true := by
          cases hq : (rq c k 0 == 0 && rq c k 1 == 0) with
          | true => rfl
          | false => rw [hq] at h2; cases h2
        refine ⟨fun _ => bad (by rw [hlay, hidx, hv, hz]; rfl), fun h4 => ?_⟩
        exfalso
        have h4 : toB (if andB (rq c k 0 == 0) (rq c k 1 == 0) = true then Value.bool true else .bool (!toB undef)) = false := congrArg toB h4
        rw [andB_eq, hz] at h4
        cases h4
  · have hge : ¬ k < n := by
      have : decide ((k : Int) < (n : Int)) = false := Value.bool.inj h
      simpa using this
    have hkn : k = n := by omega
    subst hkn
    have e : F_sFilmValid.out [.slice a k cap, c] = [.bool (decide ((k : Int) ≤ 8))] := by
      show [Value.bool (allB (layP c) 0 k && decide ((k : Int) ≤ 8))] = _
      rw [hall, Bool.true_and]
    rw [e] at hK
    exact hK

def tr_mcell00 : Tr :=
  (.evs [.call 0 [(.var 0), (.var 1), (.var 2), (.var 12), (.var 13), (.var 14), (.var 24)] none 4,
    .call 0 [(.var 3), (.var 4), (.var 5), (.var 18), (.var 19), (.var 20), (.var 28)] none 4,
    .call 1 [(.var 25), (.var 26), (.var 27), (.var 29), (.var 30), (.var 31), (.var 32)] none 4]
  (.ret [(.var 33), (.var 34), (.var 35), (.var 0), (.var 1), (.var 2), (.var 3), (.var 4), (.var 5), (.var 6), (.var 7), (.var 8), (.var 9), (.var 10), (.var 11), (.var 12), (.var 13), (.var 14), (.var 15), (.var 16), (.var 17), (.var 18), (.var 19), (.var 20), (.var 21), (.var 22), (.var 23), (.var 36)]))
def Fs_mcell00 : List Fun1 := [G_times, G_add]
def F_mcell00 : Fun1 := ofTree Fs_mcell00 tr_mcell00
def G_mcell00 : Fun1 := ⟨fun _ => True, fun ins => fl3 [(mixI (b0 ins 24) (q3 ins 0) (q3 ins 12) (q3 ins 3) (q3 ins 18)).1] ++ (copyV ins 0 24 ++ [.bool (mixI (b0 ins 24) (q3 ins 0) (q3 ins 12) (q3 ins 3) (q3 ins 18)).2])⟩
theorem out_mcell00 : (fun (g : Nat → Int) (s : Bool) => F_mcell00.out (ivs g 0 24 ++ [.bool s])) = fun g s => G_mcell00.out (ivs g 0 24 ++ [.bool s]) := by kernel_rfl
theorem as_mcell00 (ins : List Value) (ht : TypedL (intTs 24 ++ [.bool]) ins) (_ : G_mcell00.pre ins) : F_mcell00.pre ins ∧ F_mcell00.out ins = G_mcell00.out ins := by
  obtain ⟨g, r, rfl, h1, _⟩ := ints_lit 24 0 ht
  obtain ⟨s, r2, rfl, h2⟩ := bool_cons h1
  obtain rfl := ints0 h2
  exact ⟨okT_free (by intro F hF ins; simp only [Fs_mcell00, List.mem_cons, List.not_mem_nil, or_false] at hF; rcases hF with rfl | rfl <;> trivial) _ _ (by kernel_rfl), congrFun (congrFun out_mcell00 g) s⟩

def tr_mcell01 : Tr :=
  (.evs [.call 0 [(.var 0), (.var 1), (.var 2), (.var 15), (.var 16), (.var 17), (.var 24)] none 4,
    .call 0 [(.var 3), (.var 4), (.var 5), (.var 21), (.var 22), (.var 23), (.var 28)] none 4,
    .call 1 [(.var 25), (.var 26), (.var 27), (.var 29), (.var 30), (.var 31), (.var 32)] none 4]
  (.ret [(.var 33), (.var 34), (.var 35), (.var 0), (.var 1), (.var 2), (.var 3), (.var 4), (.var 5), (.var 6), (.var 7), (.var 8), (.var 9), (.var 10), (.var 11), (.var 12), (.var 13), (.var 14), (.var 15), (.var 16), (.var 17), (.var 18), (.var 19), (.var 20), (.var 21), (.var 22), (.var 23), (.var 36)]))
def Fs_mcell01 : List Fun1 := [G_times, G_add]
def F_mcell01 : Fun1 := ofTree Fs_mcell01 tr_mcell01
def G_mcell01 : Fun1 := ⟨fun _ => True, fun ins => fl3 [(mixI (b0 ins 24) (q3 ins 0) (q3 ins 15) (q3 ins 3) (q3 ins 21)).1] ++ (copyV ins 0 24 ++ [.bool (mixI (b0 ins 24) (q3 ins 0) (q3 ins 15) (q3 ins 3) (q3 ins 21)).2])⟩
theorem out_mcell01 : (fun (g : Nat → Int) (s : Bool) => F_mcell01.out (ivs g 0 24 ++ [.bool s])) = fun g s => G_mcell01.out (ivs g 0 24 ++ [.bool s]) := by kernel_rfl
theorem as_mcell01 (ins : List Value) (ht : TypedL (intTs 24 ++ [.bool]) ins) (_ : G_mcell01.pre ins) : F_mcell01.pre ins ∧ F_mcell01.out ins = G_mcell01.out ins := by
  obtain ⟨g, r, rfl, h1, _⟩ := ints_lit 24 0 ht
  obtain ⟨s, r2, rfl, h2⟩ := bool_cons h1
  obtain rfl := ints0 h2
  exact ⟨okT_free (by intro F hF ins; simp only [Fs_mcell01, List.mem_cons, List.not_mem_nil, or_false] at hF; rcases hF with rfl | rfl <;> trivial) _ _ (by kernel_rfl), congrFun (congrFun out_mcell01 g) s⟩

def tr_mcell10 : Tr :=
  (.evs [.call 0 [(.var 6), (.var 7), (.var 8), (.var 12), (.var 13), (.var 14), (.var 24)] none 4,
    .call 0 [(.var 9), (.var 10), (.var 11), (.var 18), (.var 19), (.var 20), (.var 28)] none 4,
    .call 1 [(.var 25), (.var 26), (.var 27), (.var 29), (.var 30), (.var 31), (.var 32)] none 4]
  (.ret [(.var 33), (.var 34), (.var 35), (.var 0), (.var 1), (.var 2), (.var 3), (.var 4), (.var 5), (.var 6), (.var 7), (.var 8), (.var 9), (.var 10), (.var 11), (.var 12), (.var 13), (.var 14), (.var 15), (.var 16), (.var 17), (.var 18), (.var 19), (.var 20), (.var 21), (.var 22), (.var 23), (.var 36)]))
def Fs_mcell10 : List Fun1 := [G_times, G_add]
def F_mcell10 : Fun1 := ofTree Fs_mcell10 tr_mcell10
def G_mcell10 : Fun1 := ⟨fun _ => True, fun ins => fl3 [(mixI (b0 ins 24) (q3 ins 6) (q3 ins 12) (q3 ins 9) (q3 ins 18)).1] ++ (copyV ins 0 24 ++ [.bool (mixI (b0 ins 24) (q3 ins 6) (q3 ins 12) (q3 ins 9) (q3 ins 18)).2])⟩
theorem out_mcell10 : (fun (g : Nat → Int) (s : Bool) => F_mcell10.out (ivs g 0 24 ++ [.bool s])) = fun g s => G_mcell10.out (ivs g 0 24 ++ [.bool s]) := by kernel_rfl
theorem as_mcell10 (ins : List Value) (ht : TypedL (intTs 24 ++ [.bool]) ins) (_ : G_mcell10.pre ins) : F_mcell10.pre ins ∧ F_mcell10.out ins = G_mcell10.out ins := by
  obtain ⟨g, r, rfl, h1, _⟩ := ints_lit 24 0 ht
  obtain ⟨s, r2, rfl, h2⟩ := bool_cons h1
  obtain rfl := ints0 h2
  exact ⟨okT_free (by intro F hF ins; simp only [Fs_mcell10, List.mem_cons, List.not_mem_nil, or_false] at hF; rcases hF with rfl | rfl <;> trivial) _ _ (by kernel_rfl), congrFun (congrFun out_mcell10 g) s⟩

def tr_mcell11 : Tr :=
  (.evs [.call 0 [(.var 6), (.var 7), (.var 8), (.var 15), (.var 16), (.var 17), (.var 24)] none 4,
    .call 0 [(.var 9), (.var 10), (.var 11), (.var 21), (.var 22), (.var 23), (.var 28)] none 4,
    .call 1 [(.var 25), (.var 26), (.var 27), (.var 29), (.var 30), (.var 31), (.var 32)] none 4]
  (.ret [(.var 33), (.var 34), (.var 35), (.var 0), (.var 1), (.var 2), (.var 3), (.var 4), (.var 5), (.var 6), (.var 7), (.var 8), (.var 9), (.var 10), (.var 11), (.var 12), (.var 13), (.var 14), (.var 15), (.var 16), (.var 17), (.var 18), (.var 19), (.var 20), (.var 21), (.var 22), (.var 23), (.var 36)]))
def Fs_mcell11 : List Fun1 := [G_times, G_add]
def F_mcell11 : Fun1 := ofTree Fs_mcell11 tr_mcell11
def G_mcell11 : Fun1 := ⟨fun _ => True, fun ins => fl3 [(mixI (b0 ins 24) (q3 ins 6) (q3 ins 15) (q3 ins 9) (q3 ins 21)).1] ++ (copyV ins 0 24 ++ [.bool (mixI (b0 ins 24) (q3 ins 6) (q3 ins 15) (q3 ins 9) (q3 ins 21)).2])⟩
theorem out_mcell11 : (fun (g : Nat → Int) (s : Bool) => F_mcell11.out (ivs g 0 24 ++ [.bool s])) = fun g s => G_mcell11.out (ivs g 0 24 ++ [.bool s]) := by kernel_rfl
theorem as_mcell11 (ins : List Value) (ht : TypedL (intTs 24 ++ [.bool]) ins) (_ : G_mcell11.pre ins) : F_mcell11.pre ins ∧ F_mcell11.out ins = G_mcell11.out ins := by
  obtain ⟨g, r, rfl, h1, _⟩ := ints_lit 24 0 ht
  obtain ⟨s, r2, rfl, h2⟩ := bool_cons h1
  obtain rfl := ints0 h2
  exact ⟨okT_free (by intro F hF ins; simp only [Fs_mcell11, List.mem_cons, List.not_mem_nil, or_false] at hF; rcases hF with rfl | rfl <;> trivial) _ _ (by kernel_rfl), congrFun (congrFun out_mcell11 g) s⟩

def tr_gotMat : Tr :=
  (.ite (.var 12)
  (.ret [(.int .i64 0), (.int .i64 0), (.int .i64 0), (.int .i64 0), (.int .i64 0), (.int .i64 0), (.int .i64 0), (.int .i64 0), (.int .i64 0), (.int .i64 0), (.int .i64 0), (.int .i64 0), (.bool false), (.var 12)])
  (.ret [(.var 0), (.var 1), (.var 2), (.var 3), (.var 4), (.var 5), (.var 6), (.var 7), (.var 8), (.var 9), (.var 10), (.var 11), (.bool true), (.var 12)]))
def Fs_gotMat : List Fun1 := []
def F_gotMat : Fun1 := ofTree Fs_gotMat tr_gotMat
def G_gotMat : Fun1 := ⟨fun _ => True, fun ins => gotV (b0 ins 12) ins 0 12 ++ [.bool (!b0 ins 12), .bool (b0 ins 12)]⟩
theorem out_gotMat : (fun (g : Nat → Int) => F_gotMat.out (ivs g 0 12 ++ [.bool true])) = fun g => G_gotMat.out (ivs g 0 12 ++ [.bool true]) := by kernel_rfl
theorem out_gotMat' : (fun (g : Nat → Int) => F_gotMat.out (ivs g 0 12 ++ [.bool false])) = fun g => G_gotMat.out (ivs g 0 12 ++ [.bool false]) := by kernel_rfl
theorem as_gotMat (ins : List Value) (ht : TypedL (intTs 12 ++ [.bool]) ins) (_ : G_gotMat.pre ins) : F_gotMat.pre ins ∧ F_gotMat.out ins = G_gotMat.out ins := by
  obtain ⟨g, r, rfl, h1, _⟩ := ints_lit 12 0 ht
  obtain ⟨b, r2, rfl, h2⟩ := bool_cons h1
  obtain rfl := ints0 h2
  cases b
  · exact ⟨trivial, congrFun out_gotMat' g⟩
  · exact ⟨trivial, congrFun out_gotMat g⟩

def tr_iMatTimes : Tr :=
  (.evs [.call 0 [(.var 0), (.var 1), (.var 2), (.var 3), (.var 4), (.var 5), (.var 6), (.var 7), (.var 8), (.var 9), (.var 10), (.var 11)] none 1,
    .call 0 [(.var 12), (.var 13), (.var 14), (.var 15), (.var 16), (.var 17), (.var 18), (.var 19), (.var 20), (.var 21), (.var 22), (.var 23)] (some (.var 24)) 1,
    .call 1 [(.ite (.var 24) (.var 25) (.bool false)), (.bool false)] none 1]
  (.evs [.call 2 [(.var 0), (.var 1), (.var 2), (.var 3), (.var 4), (.var 5), (.var 6), (.var 7), (.var 8), (.var 9), (.var 10), (.var 11), (.var 12), (.var 13), (.var 14), (.var 15), (.var 16), (.var 17), (.var 18), (.var 19), (.var 20), (.var 21), (.var 22), (.var 23), (.var 26)] none 28,
    .call 3 [(.var 30), (.var 31), (.var 32), (.var 33), (.var 34), (.var 35), (.var 36), (.var 37), (.var 38), (.var 39), (.var 40), (.var 41), (.var 42), (.var 43), (.var 44), (.var 45), (.var 46), (.var 47), (.var 48), (.var 49), (.var 50), (.var 51), (.var 52), (.var 53), (.var 54)] none 28,
    .call 4 [(.var 58), (.var 59), (.var 60), (.var 61), (.var 62), (.var 63), (.var 64), (.var 65), (.var 66), (.var 67), (.var 68), (.var 69), (.var 70), (.var 71), (.var 72), (.var 73), (.var 74), (.var 75), (.var 76), (.var 77), (.var 78), (.var 79), (.var 80), (.var 81), (.var 82)] none 28,
    .call 5 [(.var 86), (.var 87), (.var 88), (.var 89), (.var 90), (.var 91), (.var 92), (.var 93), (.var 94), (.var 95), (.var 96), (.var 97), (.var 98), (.var 99), (.var 100), (.var 101), (.var 102), (.var 103), (.var 104), (.var 105), (.var 106), (.var 107), (.var 108), (.var 109), (.var 110)] none 28,
    .call 6 [(.var 27), (.var 28), (.var 29), (.var 55), (.var 56), (.var 57), (.var 83), (.var 84), (.var 85), (.var 111), (.var 112), (.var 113), (.var 138)] none 14]
  (.ret [(.var 139), (.var 140), (.var 141), (.var 142), (.var 143), (.var 144), (.var 145), (.var 146), (.var 147), (.var 148), (.var 149), (.var 150), (.var 151)])))
def Fs_iMatTimes : List Fun1 := [G_iMatValid, G_need, G_mcell00, G_mcell01, G_mcell10, G_mcell11, G_gotMat]
def F_iMatTimes : Fun1 := ofTree Fs_iMatTimes tr_iMatTimes
def G_iMatTimes : Fun1 := ⟨fun _ => True, fun ins => nttW 4 (matQ (fun k => q3 ins (3 * k)) && matQ (fun k => q3 ins (12 + 3 * k))) (mulM (fun k => q3 ins (3 * k)) (fun k => q3 ins (12 + 3 * k)))⟩
theorem out_iMatTimes : (fun (g : Nat → Int) => evalT' Fs_iMatTimes tr_iMatTimes (ivs g 0 24)) = fun g =>
    gotL (mtI (fun k => q3 (ivs g 0 24) (3 * k)) (fun k => q3 (ivs g 0 24) (12 + 3 * k))).2 (mtI (fun k => q3 (ivs g 0 24) (3 * k)) (fun k => q3 (ivs g 0 24) (12 + 3 * k))).1 ++ [.bool (!(mtI (fun k => q3 (ivs g 0 24) (3 * k)) (fun k => q3 (ivs g 0 24) (12 + 3 * k))).2)] := by kernel_rfl
theorem as_iMatTimes (ins : List Value) (ht : TypedL (intTs 24 ++ []) ins) (_ : G_iMatTimes.pre ins) : F_iMatTimes.pre ins ∧ F_iMatTimes.out ins = G_iMatTimes.out ins := by
  obtain ⟨g, r, rfl, h1, _⟩ := ints_lit 24 0 ht
  obtain rfl := ints0 h1
  rw [List.append_nil]
  refine ⟨okT_free (by intro F hF ins; simp only [Fs_iMatTimes, List.mem_cons, List.not_mem_nil, or_false] at hF; rcases hF with rfl | rfl | rfl | rfl | rfl | rfl | rfl <;> trivial) _ _ (by kernel_rfl), (evalT_sel (lens := [1]) (Lens.cons (fun _ => rfl) Lens.nil) _ _ (by kernel_rfl)).trans ((congrFun out_iMatTimes g).trans ?_)⟩
  exact (mtI_eq _ _).trans (nttV_eq _ _ _)

def tr_l5Four : Tr :=
  (.ite (.not (.var 12))
  (.ret [(.int .i64 0), (.int .i64 0), (.int .i64 0), (.int .i64 0), (.int .i64 0), (.int .i64 0), (.int .i64 0), (.int .i64 0), (.int .i64 0), (.int .i64 0), (.int .i64 0), (.int .i64 0), (.bool false)])
  (.ret [(.var 0), (.var 1), (.var 2), (.var 3), (.var 4), (.var 5), (.var 6), (.var 7), (.var 8), (.var 9), (.var 10), (.var 11), (.bool true)]))
def Fs_l5Four : List Fun1 := []
def F_l5Four : Fun1 := ofTree Fs_l5Four tr_l5Four
def G_l5Four : Fun1 := ⟨fun _ => True, fun ins => gotV (!b0 ins 12) ins 0 12 ++ [.bool (b0 ins 12)]⟩
theorem out_l5Four : (fun (g : Nat → Int) => F_l5Four.out (ivs g 0 12 ++ [.bool true])) = fun g => G_l5Four.out (ivs g 0 12 ++ [.bool true]) := by kernel_rfl
theorem out_l5Four' : (fun (g : Nat → Int) => F_l5Four.out (ivs g 0 12 ++ [.bool false])) = fun g => G_l5Four.out (ivs g 0 12 ++ [.bool false]) := by kernel_rfl
theorem as_l5Four (ins : List Value) (ht : TypedL (intTs 12 ++ [.bool]) ins) (_ : G_l5Four.pre ins) : F_l5Four.pre ins ∧ F_l5Four.out ins = G_l5Four.out ins := by
  obtain ⟨g, r, rfl, h1, _⟩ := ints_lit 12 0 ht
  obtain ⟨b, r2, rfl, h2⟩ := bool_cons h1
  obtain rfl := ints0 h2
  refine ⟨okT_free (fun F hF => by cases hF) _ _ (by kernel_rfl), ?_⟩
  cases b
  · exact congrFun out_l5Four' g
  · exact congrFun out_l5Four g
def A_l5Four : AF := aAny 13
theorem aok_l5Four {cb : CodeB} : AOK cb G_l5Four A_l5Four := aAny_ok (fun _ => trivial) (fun ins => by show (gotV _ _ 0 12 ++ _).length = 13; exact rfl)

def tr_sMatTimes : Tr :=
  (.evs [.call 0 [(.var 0), (.var 1), (.var 2), (.var 3), (.var 4), (.var 5), (.var 6), (.var 7), (.var 8), (.var 9), (.var 10), (.var 11)] none 1,
    .call 0 [(.var 12), (.var 13), (.var 14), (.var 15), (.var 16), (.var 17), (.var 18), (.var 19), (.var 20), (.var 21), (.var 22), (.var 23)] (some (.not (.not (.var 24)))) 1]
  (.ite (.ite (.not (.var 24)) (.bool true) (.not (.var 25)))
  (.ret [(.int .i64 0), (.int .i64 0), (.int .i64 0), (.int .i64 0), (.int .i64 0), (.int .i64 0), (.int .i64 0), (.int .i64 0), (.int .i64 0), (.int .i64 0), (.int .i64 0), (.int .i64 0), (.bool false)])
  (.evs [.call 1 [(.var 0), (.var 1), (.var 2), (.var 12), (.var 13), (.var 14), (.var 3), (.var 4), (.var 5), (.var 18), (.var 19), (.var 20)] none 4]
   (.evs [.call 1 [(.var 0), (.var 1), (.var 2), (.var 15), (.var 16), (.var 17), (.var 3), (.var 4), (.var 5), (.var 21), (.var 22), (.var 23)] none 4]
   (.evs [.call 1 [(.var 6), (.var 7), (.var 8), (.var 12), (.var 13), (.var 14), (.var 9), (.var 10), (.var 11), (.var 18), (.var 19), (.var 20)] none 4]
   (.evs [.call 1 [(.var 6), (.var 7), (.var 8), (.var 15), (.var 16), (.var 17), (.var 9), (.var 10), (.var 11), (.var 21), (.var 22), (.var 23)] none 4]
   (.evs [.call 2 [(.var 26), (.var 27), (.var 28), (.var 30), (.var 31), (.var 32), (.var 34), (.var 35), (.var 36), (.var 38), (.var 39), (.var 40), (.ite (.ite (.ite (.var 29) (.var 33) (.bool false)) (.var 37) (.bool false)) (.var 41) (.bool false))] none 13]
   (.ret [(.var 42), (.var 43), (.var 44), (.var 45), (.var 46), (.var 47), (.var 48), (.var 49), (.var 50), (.var 51), (.var 52), (.var 53), (.var 54)]))))))))
def Fs_sMatTimes : List Fun1 := [G_sMatValid, G_l3Inner, G_l5Four]
def F_sMatTimes : Fun1 := ofTree Fs_sMatTimes tr_sMatTimes
def G_sMatTimes : Fun1 := ⟨fun _ => True, fun ins => nttW 4 (matQ (fun k => q3 ins (3 * k)) && matQ (fun k => q3 ins (12 + 3 * k))) (mulM (fun k => q3 ins (3 * k)) (fun k => q3 ins (12 + 3 * k)))⟩
theorem out_sMatTimes : (fun (g : Nat → Int) => evalT' Fs_sMatTimes tr_sMatTimes (ivs g 0 24)) = fun g =>
    mtS (fun k => q3 (ivs g 0 24) (3 * k)) (fun k => q3 (ivs g 0 24) (12 + 3 * k)) := by kernel_rfl
theorem as_sMatTimes (ins : List Value) (ht : TypedL (intTs 24 ++ []) ins) (_ : G_sMatTimes.pre ins) : F_sMatTimes.pre ins ∧ F_sMatTimes.out ins = G_sMatTimes.out ins := by
  obtain ⟨g, r, rfl, h1, _⟩ := ints_lit 24 0 ht
  obtain rfl := ints0 h1
  rw [List.append_nil]
  refine ⟨okT_free (by intro F hF ins; simp only [Fs_sMatTimes, List.mem_cons, List.not_mem_nil, or_false] at hF; rcases hF with rfl | rfl | rfl <;> trivial) _ _ (by kernel_rfl), (evalT_sel (lens := [1]) (Lens.cons (fun _ => rfl) Lens.nil) _ _ (by kernel_rfl)).trans ((congrFun out_sMatTimes g).trans ?_)⟩
  exact (mtS_eq _ _).trans (nttV_eq _ _ _)
def A_sMatTimes : AF := aAny 13
theorem aok_sMatTimes {cb : CodeB} : AOK cb G_sMatTimes A_sMatTimes := aAny_ok (fun _ => trivial) (fun ins => by simp [G_sMatTimes, nttW, ivs_length])

def tr_wholeM : Tr :=
  (.ret [])
def Fs_wholeM : List Fun1 := []
def F_wholeM : Fun1 := ofTree Fs_wholeM tr_wholeM

def tr_iMatScaleM : Tr :=
  (.evs [.call 0 [(.var 0), (.var 1), (.var 2), (.var 3), (.var 4), (.var 5), (.var 6), (.var 7), (.var 8), (.var 9), (.var 10), (.var 11)] none 1,
    .call 1 [(.int .i64 (-1)), (.int .i64 0), (.int .i64 1)] (some (.var 12)) 1,
    .call 2 [(.ite (.var 12) (.var 13) (.bool false)), (.bool false)] none 1]
  (.evs [.call 3 [(.var 0), (.var 1), (.var 2), (.int .i64 (-1)), (.int .i64 0), (.int .i64 1), (.var 14)] none 4]
  (.evs [.call 3 [(.var 3), (.var 4), (.var 5), (.int .i64 (-1)), (.int .i64 0), (.int .i64 1), (.var 18)] none 4]
  (.evs [.call 3 [(.var 6), (.var 7), (.var 8), (.int .i64 (-1)), (.int .i64 0), (.int .i64 1), (.var 22)] none 4]
  (.evs [.call 3 [(.var 9), (.var 10), (.var 11), (.int .i64 (-1)), (.int .i64 0), (.int .i64 1), (.var 26)] none 4]
  (.evs [.call 4 [(.var 15), (.var 16), (.var 17), (.var 19), (.var 20), (.var 21), (.var 23), (.var 24), (.var 25), (.var 27), (.var 28), (.var 29), (.var 30)] none 14]
  (.ret [(.var 31), (.var 32), (.var 33), (.var 34), (.var 35), (.var 36), (.var 37), (.var 38), (.var 39), (.var 40), (.var 41), (.var 42), (.var 43)])))))))
def Fs_iMatScaleM : List Fun1 := [G_iMatValid, G_iFracValid, G_need, G_times, G_gotMat]
def F_iMatScaleM : Fun1 := ofTree Fs_iMatScaleM tr_iMatScaleM
def G_iMatScaleM : Fun1 := ⟨fun _ => True, fun ins => nttW 4 (matQ fun k => q3 ins (3 * k)) (fun k => timesQ (q3 ins (3 * k)) (-1, 0, 1))⟩
theorem out_iMatScaleM : (fun (g : Nat → Int) => evalT' Fs_iMatScaleM tr_iMatScaleM (ivs g 0 12)) = fun g =>
    gotL (scI (fun k => q3 (ivs g 0 12) (3 * k))).2 (scI (fun k => q3 (ivs g 0 12) (3 * k))).1 ++ [.bool (!(scI (fun k => q3 (ivs g 0 12) (3 * k))).2)] := by kernel_rfl
theorem as_iMatScaleM (ins : List Value) (ht : TypedL (intTs 12 ++ []) ins) (_ : G_iMatScaleM.pre ins) : F_iMatScaleM.pre ins ∧ F_iMatScaleM.out ins = G_iMatScaleM.out ins := by
  obtain ⟨g, r, rfl, h1, _⟩ := ints_lit 12 0 ht
  obtain rfl := ints0 h1
  rw [List.append_nil]
  refine ⟨okT_free (by intro F hF ins; simp only [Fs_iMatScaleM, List.mem_cons, List.not_mem_nil, or_false] at hF; rcases hF with rfl | rfl | rfl | rfl | rfl <;> trivial) _ _ (by kernel_rfl), (evalT_sel (lens := [1, 1]) (Lens.cons (fun _ => rfl) (Lens.cons (fun _ => rfl) Lens.nil)) _ _ (by kernel_rfl)).trans ((congrFun out_iMatScaleM g).trans ?_)⟩
  exact (scI_eq _).trans (nttV_eq _ _ _)

def tr_iFracOver : Tr :=
  (.evs [.call 0 [(.var 0), (.var 1), (.var 2)] none 1,
    .call 0 [(.var 3), (.var 4), (.var 5)] (some (.not (.not (.var 6)))) 1]
  (.ite (.ite (.ite (.not (.var 6)) (.bool true) (.not (.var 7))) (.bool true) (.ite (.cmp .eql (.var 3) (.int .i64 0)) (.ite (.cmp .eql (.var 4) (.int .i64 0)) (.cmp .eql (.var 5) (.int .i64 1)) (.bool false)) (.bool false)))
  (.ret [(.int .i64 0), (.int .i64 0), (.int .i64 0), (.bool false)])
  (.evs [.call 1 [(.ar .mul .i64 (.var 5) (.var 3)), (.ar .mul .i64 (.ar .sub .i64 (.int .i64 0) (.var 5)) (.var 4)), (.ar .add .i64 (.ar .mul .i64 (.var 3) (.var 3)) (.ar .mul .i64 (.var 4) (.var 4)))] none 4]
   (.ite (.not (.var 11))
   (.ret [(.int .i64 0), (.int .i64 0), (.int .i64 0), (.bool false)])
   (.evs [.call 2 [(.var 0), (.var 1), (.var 2), (.var 8), (.var 9), (.var 10)] none 4]
    (.ret [(.var 12), (.var 13), (.var 14), (.var 15)]))))))
def Fs_iFracOver : List Fun1 := [G_iFracValid, G_lowest, G_iFracTimes]
def F_iFracOver : Fun1 := ofTree Fs_iFracOver tr_iFracOver
def G_iFracOver : Fun1 := ⟨fun _ => True, fun ins => fr4 (overQ (q3 ins 0) (q3 ins 3))⟩
theorem as_iFracOver (ins : List Value) (ht : TypedL [.int .i64, .int .i64, .int .i64, .int .i64, .int .i64, .int .i64] ins) (_ : G_iFracOver.pre ins) : F_iFracOver.pre ins ∧ F_iFracOver.out ins = G_iFracOver.out ins := by
  obtain ⟨a, b, c, x, y, z, rfl, _⟩ := ints6 ht
  simp only [F_iFracOver, G_iFracOver, tr_iFracOver, Fs_iFracOver, G_iFracValid, G_lowest, G_iFracTimes, overQ, turnQ, validQ, q3, arI, ofTree, okT, okE, evalT, evalE, evsIn, ev, callF, preF, hasF, needs, i0, b0, toI_int, toB_bool, List.getD_cons_zero, List.getD_cons_succ, List.cons_append, List.nil_append, List.replicate, if_true, if_false, Bool.false_eq_true, and_true, true_and, implies_true, forall_const, false_implies, cmpI, Bool.not_true, Bool.not_false, Bool.true_and, Bool.false_and, Bool.and_true, Bool.and_false, reduceIte, List.append_nil, reduceCtorEq]
  cases h : validI a b c
  · simp [fr4, zq]
  · cases k : validI x y z
    · simp [fr4, zq]
    · by_cases hz : x = 0 ∧ y = 0
      · obtain ⟨rfl, rfl⟩ := hz
        have := nil_den k
        subst this
        simp [fr4, zq]
      · obtain ⟨e1, e2, e3, e4, e5, e6, l, _⟩ := turn_facts k hz
        have e2' : IntKind.i64.wrap (-z) = -z := by rw [← e2]; congr 1; omega
        have hz' : ¬ (x = 0 ∧ y = 0 ∧ z = 1) := fun hh => hz ⟨hh.1, hh.2.1⟩
        have hb : (x == 0 && (y == 0 && z == 1)) = false := by
          cases hq : (x == 0 && (y == 0 && z == 1)) with
          | false => rfl
          | true => exact absurd (by simpa using hq) hz'
        have hb2 : (x == 0 && y == 0) = false := by
          cases hq : (x == 0 && y == 0) with
          | false => rfl
          | true => exact absurd (by simpa using hq) hz
        have hc : ∀ p : Prop, (toB (if (x == 0) = true then (if (y == 0) = true then Value.bool (z == 1) else .bool false) else .bool false) = true) = (false = true) := fun p => by
          have : toB (if (x == 0) = true then (if (y == 0) = true then Value.bool (z == 1) else .bool false) else .bool false) = (x == 0 && (y == 0 && z == 1)) := by cases x == 0 <;> cases y == 0 <;> rfl
          rw [this, hb]
        cases ht : lowI (z * x) (-(z * y)) (x * x + y * y) <;> simp [fr4, zq, e1, e2', e3, e4, e5, e6, l, hz, hz', hb, hb2, ht]

def tr_over : Tr :=
  (.evs [.call 0 [(.var 0), (.var 1), (.var 2), (.var 3), (.var 4), (.var 5)] none 4,
    .call 1 [(.var 7), (.var 8), (.var 9), (.var 10), (.var 6)] none 4]
  (.ret [(.var 11), (.var 12), (.var 13), (.var 14)]))
def Fs_over : List Fun1 := [G_iFracOver, F_keep]
def F_over : Fun1 := ofTree Fs_over tr_over
def G_over : Fun1 := ⟨fun _ => True, fun ins => fr3 (overQ (q3 ins 0) (q3 ins 3)) ++ [.bool (b0 ins 6 || !(overQ (q3 ins 0) (q3 ins 3)).isSome)]⟩
theorem as_over (ins : List Value) (ht : TypedL [.int .i64, .int .i64, .int .i64, .int .i64, .int .i64, .int .i64, .bool] ins) (_ : G_over.pre ins) : F_over.pre ins ∧ F_over.out ins = G_over.out ins := by
  obtain ⟨a, r1, rfl, _, ht1⟩ := int_cons ht
  obtain ⟨b, r2, rfl, _, ht2⟩ := int_cons ht1
  obtain ⟨c, r3, rfl, _, ht3⟩ := int_cons ht2
  obtain ⟨x, r4, rfl, _, ht4⟩ := int_cons ht3
  obtain ⟨y, r5, rfl, _, ht5⟩ := int_cons ht4
  obtain ⟨z, r6, rfl, _, ht6⟩ := int_cons ht5
  obtain ⟨t, r7, rfl, ht7⟩ := bool_cons ht6
  obtain rfl := ints0 ht7
  simp only [F_over, G_over, tr_over, Fs_over, G_iFracOver, F_keep, tr_keep, Fs_keep, q3, fr4, fr3, ofTree, okT, okE, evalT, evalE, evsIn, ev, callF, preF, hasF, needs, i0, b0, toI_int, toB_bool, List.getD_cons_zero, List.getD_cons_succ, List.cons_append, List.nil_append, List.replicate, if_true, if_false, Bool.false_eq_true, and_true, true_and, implies_true, forall_const, false_implies, cmpI, Bool.not_true, Bool.not_false, Bool.true_and, Bool.false_and, Bool.and_true, Bool.and_false, reduceIte, List.append_nil, reduceCtorEq]
  cases h : overQ (a, b, c) (x, y, z) <;> simp [zq]

def tr_layerMat : Tr :=
  (.evs [.call 0 [] none 0]
  (.ite (.cmp .eql (.var 3) (.int .i64 0))
  (.ret [(.int .i64 1), (.int .i64 0), (.int .i64 1), (.int .i64 0), (.int .i64 0), (.int .i64 1), (.int .i64 0), (.int .i64 0), (.int .i64 1), (.int .i64 1), (.int .i64 0), (.int .i64 1), (.bool true)])
  (.ite (.cmp .eql (.var 3) (.int .i64 2))
   (.ret [(.int .i64 (-1)), (.int .i64 0), (.int .i64 1), (.int .i64 0), (.int .i64 0), (.int .i64 1), (.int .i64 0), (.int .i64 0), (.int .i64 1), (.int .i64 (-1)), (.int .i64 0), (.int .i64 1), (.bool true)])
   (.evs [.call 1 [(.int .i64 0), (.int .i64 1), (.int .i64 1), (.var 0), (.var 1), (.var 2), (.bool false)] none 4,
      .call 2 [(.int .i64 0), (.int .i64 1), (.int .i64 1), (.var 0), (.var 1), (.var 2), (.var 7)] none 4]
    (.ite (.var 11)
    (.ret [(.int .i64 0), (.int .i64 0), (.int .i64 0), (.int .i64 0), (.int .i64 0), (.int .i64 0), (.int .i64 0), (.int .i64 0), (.int .i64 0), (.int .i64 0), (.int .i64 0), (.int .i64 0), (.bool false)])
    (.ite (.cmp .eql (.var 3) (.int .i64 3))
     (.evs [.call 3 [(.int .i64 0), (.int .i64 0), (.int .i64 1), (.var 4), (.var 5), (.var 6), (.var 8), (.var 9), (.var 10), (.int .i64 0), (.int .i64 0), (.int .i64 1)] none 13]
      (.ret [(.var 12), (.var 13), (.var 14), (.var 15), (.var 16), (.var 17), (.var 18), (.var 19), (.var 20), (.var 21), (.var 22), (.var 23), (.var 24)]))
     (.ret [(.int .i64 0), (.int .i64 0), (.int .i64 1), (.var 4), (.var 5), (.var 6), (.var 8), (.var 9), (.var 10), (.int .i64 0), (.int .i64 0), (.int .i64 1), (.bool true)])))))))
def Fs_layerMat : List Fun1 := [F_wholeM, G_over, G_times, G_iMatScaleM]
def F_layerMat : Fun1 := ofTree Fs_layerMat tr_layerMat
def layW (x : Q) (qt : Int) : List Value := nttW 4 true (layD x qt)
def G_layerMat : Fun1 := ⟨fun _ => True, fun ins => layW (q3 ins 0) (i0 ins 3)⟩
theorem layW_eq {x : Q} {qt : Int} {l : List Value} (h : nttV 4 true (layD x qt) = l) : layW x qt = l := by rw [← h, nttV_eq]; rfl
theorem lay_part {x : Q} {qt : Int} (h0 : ¬ qt = 0) (h2 : ¬ qt = 2) : nttV 4 true (layD x qt) = (match overQ (unitOf qt) x, timesQ (unitOf qt) x with
    | some o, some t => fl3 [nil1, o, t, nil1] ++ [.bool true]
    | _, _ => zeros 12 ++ [.bool false]) := by
  cases ho : overQ (unitOf qt) x with
  | none => simp [nttV, allB, layD, h0, h2, ho]
  | some o =>
    cases ht : timesQ (unitOf qt) x with
    | none => simp [nttV, allB, layD, h0, h2, ho, ht]
    | some t => simp [nttV, allB, layD, h0, h2, ho, ht, listD]
theorem scale_lay {o t : Q} (ho : validQ o = true) (ht : validQ t = true) : G_iMatScaleM.out [.int .i64 0, .int .i64 0, .int .i64 1, .int .i64 o.1, .int .i64 o.2.1, .int .i64 o.2.2, .int .i64 t.1, .int .i64 t.2.1, .int .i64 t.2.2, .int .i64 0, .int .i64 0, .int .i64 1] = fl3 [nil1, negQ o, negQ t, nil1] ++ [.bool true] := by
  have key : ∀ f : Nat → Q, f 0 = nil1 → f 1 = o → f 2 = t → f 3 = nil1 → nttW 4 (matQ f) (fun k => timesQ (f k) (-1, 0, 1)) = fl3 [nil1, negQ o, negQ t, nil1] ++ [.bool true] := by
    intro f h0 h1 h2 h3
    rw [← nttV_eq]
    simp [nttV, matQ, allB, listD, h0, h1, h2, h3, ho, ht, nil1_valid, times_M ho, times_M ht, nil1_neg]
  exact key _ rfl rfl rfl rfl
theorem as_layerMat (ins : List Value) (ht : TypedL [.int .i64, .int .i64, .int .i64, .int .i64] ins) (_ : G_layerMat.pre ins) : F_layerMat.pre ins ∧ F_layerMat.out ins = G_layerMat.out ins := by
  obtain ⟨a, b, c, q, rfl, _⟩ := ints4 ht
  refine ⟨okT_mask (m := [true, true, true, true]) (.yes (fun _ => okT_free (fun F hF => by cases hF) _ _ (by kernel_rfl)) (.yes (fun _ => trivial) (.yes (fun _ => trivial) (.yes (fun _ => trivial) .nil)))) _ _ (by kernel_rfl), ?_⟩
  show evalT Fs_layerMat tr_layerMat _ = layW (a, b, c) q
  by_cases h0 : q = 0
  · subst h0
    exact (layW_eq rfl).symm ▸ rfl
  · by_cases h2 : q = 2
    · subst h2
      exact (layW_eq rfl).symm ▸ rfl
    · rw [layW_eq (lay_part h0 h2)]
      unfold tr_layerMat
      simp only [Fs_layerMat, F_wholeM, tr_wholeM, Fs_wholeM, G_over, G_times, q3, fr3, ofTree, okT, okE, evalT, evalE, evsIn, ev, callF, preF, hasF, needs, i0, b0, toI_int, toB_bool, List.getD_cons_zero, List.getD_cons_succ, List.cons_append, List.nil_append, List.replicate, if_true, if_false, Bool.false_eq_true, and_true, true_and, implies_true, forall_const, false_implies, cmpI, Bool.not_true, Bool.not_false, Bool.true_and, Bool.false_and, Bool.and_true, Bool.and_false, reduceIte, List.append_nil, reduceCtorEq]
      simp only [beq_eq_false_iff_ne.2 h0, beq_eq_false_iff_ne.2 h2, ofTree, okT, okE, evalT, evalE, evsIn, ev, callF, preF, hasF, needs, i0, b0, toI_int, toB_bool, List.getD_cons_zero, List.getD_cons_succ, List.cons_append, List.nil_append, List.replicate, if_true, if_false, Bool.false_eq_true, and_true, true_and, implies_true, forall_const, false_implies, cmpI, Bool.not_true, Bool.not_false, Bool.true_and, Bool.false_and, Bool.and_true, Bool.and_false, reduceIte, List.append_nil, reduceCtorEq]
      have hJ := lay_none (x := (a, b, c))
      have hN := @lay_neg (a, b, c)
      cases ho : overQ (0, 1, 1) (a, b, c) with
      | none =>
        have hj := hJ (.inl (by rw [ho]; rfl))
        by_cases h3 : q = 3
        · have hu : unitOf q = (0, -1, 1) := by simp [unitOf, h3]
          rw [hu]
          rcases hj with hj | hj <;> simp [Option.isNone_iff_eq_none.1 (Option.isSome_eq_false_iff.1 hj), zeros]
        · have hu : unitOf q = (0, 1, 1) := by simp [unitOf, h3]
          rw [hu, ho]
          simp [zeros]
      | some o =>
        cases ht : timesQ (0, 1, 1) (a, b, c) with
        | none =>
          have hj := hJ (.inr (by rw [ht]; rfl))
          by_cases h3 : q = 3
          · have hu : unitOf q = (0, -1, 1) := by simp [unitOf, h3]
            rw [hu]
            rcases hj with hj | hj <;> simp [Option.isNone_iff_eq_none.1 (Option.isSome_eq_false_iff.1 hj), zeros]
          · have hu : unitOf q = (0, 1, 1) := by simp [unitOf, h3]
            rw [hu, ho, ht]
            simp [zeros]
        | some t =>
          obtain ⟨n1, n2, v1, v2⟩ := hN ho ht
          by_cases h3 : q = 3
          · have hu : unitOf q = (0, -1, 1) := by simp [unitOf, h3]
            rw [hu, n1, n2, times_M v1, times_M v2]
            subst h3
            simp only [Option.getD_some, scale_lay v1 v2]
            simp [fl3, nil1]
          · have hu : unitOf q = (0, 1, 1) := by simp [unitOf, h3]
            rw [hu, ho, ht]
            simp [fl3, nil1, h3]

def tr_l2Turned : Tr :=
  (.evs [.call 0 [(.ar .add .i64 (.ar .mul .i64 (.var 0) (.var 0)) (.ar .mul .i64 (.var 1) (.var 1))), (.var 2)] none 1]
  (.ite (.cmp .eql (.ar .add .i64 (.ar .mul .i64 (.var 0) (.var 0)) (.ar .mul .i64 (.var 1) (.var 1))) (.int .i64 0))
  (.ret [(.int .i64 0), (.int .i64 0), (.int .i64 0), (.bool false)])
  (.evs [.need [(.cmp .neq (.var 3) (.int .i64 0))]]
   (.evs [.need [(.ite (.cmp .neq (.var 0) (.int .i64 0)) (.cmp .neq (.mx false .i64 (.var 0) (.ar .sub .i64 (.int .i64 0) (.var 0))) (.int .i64 0)) (.bool true))],
     .need [(.ite (.ite (.not (.ite (.cmp .neq (.var 0) (.int .i64 0)) (.cmp .gtr (.ar .quo .i64 (.var 2) (.var 3)) (.ar .quo .i64 (.int .i64 4000000000000000000) (.mx false .i64 (.var 0) (.ar .sub .i64 (.int .i64 0) (.var 0))))) (.bool false))) (.cmp .neq (.var 1) (.int .i64 0)) (.bool false)) (.cmp .neq (.mx false .i64 (.var 1) (.ar .sub .i64 (.int .i64 0) (.var 1))) (.int .i64 0)) (.bool true))]]
   (.ite (.ite (.ite (.cmp .neq (.var 0) (.int .i64 0)) (.cmp .gtr (.ar .quo .i64 (.var 2) (.var 3)) (.ar .quo .i64 (.int .i64 4000000000000000000) (.mx false .i64 (.var 0) (.ar .sub .i64 (.int .i64 0) (.var 0))))) (.bool false)) (.bool true) (.ite (.cmp .neq (.var 1) (.int .i64 0)) (.cmp .gtr (.ar .quo .i64 (.var 2) (.var 3)) (.ar .quo .i64 (.int .i64 4000000000000000000) (.mx false .i64 (.var 1) (.ar .sub .i64 (.int .i64 0) (.var 1))))) (.bool false)))
   (.ret [(.int .i64 0), (.int .i64 0), (.int .i64 0), (.bool false)])
   (.evs [.need [(.cmp .neq (.var 3) (.int .i64 0))],
      .call 1 [(.ar .mul .i64 (.var 0) (.ar .quo .i64 (.var 2) (.var 3))), (.ar .sub .i64 (.int .i64 0) (.ar .mul .i64 (.var 1) (.ar .quo .i64 (.var 2) (.var 3)))), (.ar .quo .i64 (.ar .add .i64 (.ar .mul .i64 (.var 0) (.var 0)) (.ar .mul .i64 (.var 1) (.var 1))) (.var 3))] none 4]
    (.ret [(.var 4), (.var 5), (.var 6), (.var 7)])))))))
def Fs_l2Turned : List Fun1 := [F_l2Gcd, G_l2Low]
def F_l2Turned : Fun1 := ofTree Fs_l2Turned tr_l2Turned
def G_l2Turned : Fun1 := ⟨fun ins => validQ (q3 ins 0) = true, fun ins => fr4 (if i0 ins 0 == 0 && i0 ins 1 == 0 then none else turnQ (q3 ins 0))⟩
theorem as_l2Turned (ins : List Value) (ht : TypedL [.int .i64, .int .i64, .int .i64] ins) (hp : G_l2Turned.pre ins) : F_l2Turned.pre ins ∧ F_l2Turned.out ins = G_l2Turned.out ins := by
  obtain ⟨a, b, c, rfl, _⟩ := ints3 ht
  have h : validI a b c = true := hp
  obtain ⟨b1, b2, b3⟩ := valid_bounds h
  by_cases hz : a = 0 ∧ b = 0
  · obtain ⟨rfl, rfl⟩ := hz
    simp only [F_l2Turned, G_l2Turned, tr_l2Turned, Fs_l2Turned, F_l2Gcd, G_l2Low, q3, arI, ofTree, okT, okE, evalT, evalE, evsIn, ev, callF, preF, hasF, needs, i0, b0, toI_int, toB_bool, List.getD_cons_zero, List.getD_cons_succ, List.cons_append, List.nil_append, List.replicate, if_true, if_false, Bool.false_eq_true, and_true, true_and, implies_true, forall_const, false_implies, cmpI, Bool.not_true, Bool.not_false, Bool.true_and, Bool.false_and, Bool.and_true, Bool.and_false, reduceIte, List.append_nil, reduceCtorEq]
    simp [fr4, zq, show IntKind.i64.wrap 0 = 0 from rfl]
  · obtain ⟨_, _, _, e4, e5, e6, l, hN⟩ := turn_facts h hz
    obtain ⟨_, _, _, _, _, hNl⟩ := l
    obtain ⟨N, hNd⟩ : ∃ N : Nat, a * a + b * b = N := ⟨(a * a + b * b).toNat, by omega⟩
    obtain ⟨cn, rfl⟩ : ∃ cn : Nat, c = cn := ⟨c.toNat, by omega⟩
    rw [hNd] at e6 hN hNl
    have hgp : 0 < Nat.gcd N cn := Nat.gcd_pos_of_pos_right _ (by omega)
    obtain ⟨n', hn'⟩ := Nat.gcd_dvd_left N cn
    obtain ⟨d, hd⟩ := Nat.gcd_dvd_right N cn
    have hgs : mxI false (euc N cn) (IntKind.i64.wrap (0 - euc N cn)) = (Nat.gcd N cn : Nat) := by
      have := gcd_small (a := (cn : Int)) (b := (N : Int)) (by have := Nat.le_of_dvd (by omega) (Nat.gcd_dvd_right N cn); simp only [Int.natAbs_natCast]; omega)
      simpa using this
    generalize hg : Nat.gcd N cn = g at *
    have hd1 : 1 ≤ d := by rcases Nat.eq_zero_or_pos d with h0 | h0; · rw [h0, Nat.mul_zero] at hd; omega
                           · exact h0
    have hn1 : 1 ≤ n' := by rcases Nat.eq_zero_or_pos n' with h0 | h0; · rw [h0, Nat.mul_zero] at hn'; omega
                            · exact h0
    have hdc : d ≤ cn := by rw [hd]; exact Nat.le_mul_of_pos_left _ hgp
    have hnN : n' ≤ N := by rw [hn']; exact Nat.le_mul_of_pos_left _ hgp
    have q1 : (cn : Int).tdiv (g : Int) = d := by
      have e : (cn : Int) = (g : Int) * d := by exact_mod_cast hd
      rw [e]; exact Int.mul_tdiv_cancel_left _ (by omega)
    have q2 : (N : Int).tdiv (g : Int) = n' := by
      have e : (N : Int) = (g : Int) * n' := by exact_mod_cast hn'
      rw [e]; exact Int.mul_tdiv_cancel_left _ (by omega)
    have w1 : IntKind.i64.wrap (d : Int) = d := wrap_in (by omega)
    have w2 : IntKind.i64.wrap (n' : Int) = n' := wrap_in (by omega)
    have sa := size_abs (a := a) (by omega)
    have sb := size_abs (a := b) (by omega)
    have m1 := mulB (a := a) (b := (d : Int)) b1 (by omega)
    have m2 := mulB (a := b) (b := (d : Int)) b2 (by omega)
    have w3 : IntKind.i64.wrap (a * d) = a * d := wrap_in (by omega)
    have w4 : IntKind.i64.wrap (b * d) = b * d := wrap_in (by omega)
    have w5 : IntKind.i64.wrap (0 - b * d) = -(b * d) := by rw [wrap_in (by omega)]; omega
    have w5' : IntKind.i64.wrap (-(b * d)) = -(b * d) := wrap_in (by omega)
    have cap : ∀ t : Int, t ≠ 0 → -2000000000 ≤ t ∧ t ≤ 2000000000 → ¬ ((d : Int) > IntKind.i64.wrap ((4000000000000000000 : Int).tdiv (t.natAbs : Int))) := by
      intro t ht0 htb
      rw [quo_ok (by omega)]
      rw [Int.tdiv_eq_ediv_of_nonneg (by omega)]
      have : (d : Int) ≤ 4000000000000000000 / (t.natAbs : Int) := by
        refine Int.le_ediv_of_mul_le (by omega) ?_
        have := mulB (a := (d : Int)) (b := (t.natAbs : Int)) (by omega) (by omega)
        omega
      omega
    have lo : lowOk (a * d) (-(b * d)) n' := by unfold lowOk; omega
    have fin : lowI (a * d) (-(b * d)) n' = lowI ((cn : Int) * a) (-((cn : Int) * b)) N := by
      have e1 : (cn : Int) = (g : Int) * d := by exact_mod_cast hd
      have e2 : (N : Int) = (g : Int) * n' := by exact_mod_cast hn'
      rw [← low_scale hgp (a * d) (-(b * d)) n', e1, e2]
      congr 1
      · rw [Int.mul_assoc, Int.mul_comm (d : Int) a]
      · rw [Int.mul_neg, Int.mul_assoc, Int.mul_comm (d : Int) b]
    have hg0 : ((g : Nat) : Int) ≠ 0 := by omega
    have hgn : g ≠ 0 := by omega
    have hN0 : ((N : Nat) : Int) ≠ 0 := by omega
    have hNn : N ≠ 0 := by omega
    simp only [F_l2Turned, G_l2Turned, tr_l2Turned, Fs_l2Turned, F_l2Gcd, G_l2Low, turnQ, q3, arI, ofTree, okT, okE, evalT, evalE, evsIn, ev, callF, preF, hasF, needs, i0, b0, toI_int, toB_bool, List.getD_cons_zero, List.getD_cons_succ, List.cons_append, List.nil_append, List.replicate, if_true, if_false, Bool.false_eq_true, and_true, true_and, implies_true, forall_const, false_implies, cmpI, Bool.not_true, Bool.not_false, Bool.true_and, Bool.false_and, Bool.and_true, Bool.and_false, reduceIte, List.append_nil, reduceCtorEq, e4, e5, hNd, e6, hgs, q1, q2, w1, w2, sa, sb, w3, w4, w5]
    have hb2 : (a == 0 && b == 0) = false := by
      cases hq : (a == 0 && b == 0) with
      | false => rfl
      | true => exact absurd (by simpa using hq) hz
    rw [hb2]
    by_cases ha : a = 0
    · have hb : b ≠ 0 := fun hb => hz ⟨ha, hb⟩
      have cb := cap b hb b2
      simp only [ha, Int.zero_mul, Int.mul_zero, Int.neg_zero] at lo fin
      simp [fr4, zq, hg0, hgn, hN0, hNn, ha, hb, cb, lo, fin]
    · have ca := cap a ha b1
      by_cases hb : b = 0
      · simp only [hb, Int.zero_mul, Int.mul_zero, Int.neg_zero] at lo fin
        simp [fr4, zq, hg0, hgn, hN0, hNn, ha, hb, ca, lo, fin]
      · have cb := cap b hb b2
        simp [fr4, zq, hg0, hgn, hN0, hNn, ha, hb, ca, cb, lo, fin]

def tr_sFracOver : Tr :=
  (.evs [.call 0 [(.var 0), (.var 1), (.var 2)] none 1,
    .call 0 [(.var 3), (.var 4), (.var 5)] (some (.not (.not (.var 6)))) 1]
  (.ite (.ite (.ite (.not (.var 6)) (.bool true) (.not (.var 7))) (.bool true) (.ite (.cmp .eql (.var 3) (.int .i64 0)) (.cmp .eql (.var 4) (.int .i64 0)) (.bool false)))
  (.ret [(.int .i64 0), (.int .i64 0), (.int .i64 0), (.bool false)])
  (.evs [.call 1 [(.var 3), (.var 4), (.var 5)] none 4]
   (.ite (.not (.var 11))
   (.ret [(.int .i64 0), (.int .i64 0), (.int .i64 0), (.bool false)])
   (.evs [.call 2 [(.var 0), (.var 1), (.var 2), (.var 8), (.var 9), (.var 10)] none 4]
    (.ret [(.var 12), (.var 13), (.var 14), (.var 15)]))))))
def Fs_sFracOver : List Fun1 := [G_sFracValid, G_l2Turned, G_sFracTimes]
def F_sFracOver : Fun1 := ofTree Fs_sFracOver tr_sFracOver
def G_sFracOver : Fun1 := ⟨fun _ => True, fun ins => fr4 (overQ (q3 ins 0) (q3 ins 3))⟩
theorem as_sFracOver (ins : List Value) (ht : TypedL [.int .i64, .int .i64, .int .i64, .int .i64, .int .i64, .int .i64] ins) (_ : G_sFracOver.pre ins) : F_sFracOver.pre ins ∧ F_sFracOver.out ins = G_sFracOver.out ins := by
  obtain ⟨a, b, c, x, y, z, rfl, _⟩ := ints6 ht
  simp only [F_sFracOver, G_sFracOver, tr_sFracOver, Fs_sFracOver, G_sFracValid, G_l2Turned, G_sFracTimes, overQ, validQ, q3, ofTree, okT, okE, evalT, evalE, evsIn, ev, callF, preF, hasF, needs, i0, b0, toI_int, toB_bool, List.getD_cons_zero, List.getD_cons_succ, List.cons_append, List.nil_append, List.replicate, if_true, if_false, Bool.false_eq_true, and_true, true_and, implies_true, forall_const, false_implies, cmpI, Bool.not_true, Bool.not_false, Bool.true_and, Bool.false_and, Bool.and_true, Bool.and_false, reduceIte, List.append_nil, reduceCtorEq]
  cases h : validI a b c
  · simp [fr4, zq]
  · cases k : validI x y z
    · simp [fr4, zq]
    · by_cases hx : x = 0
      · by_cases hy : y = 0
        · simp [fr4, zq, hx, hy]
        · cases ht : turnQ (x, y, z) <;> simp [fr4, zq, hx, hy] <;> simp [hx] at ht <;> simp [ht]
      · cases ht : turnQ (x, y, z) <;> simp [fr4, zq, hx, ht]

def tr_l5Phase0 : Tr :=
  (.ret [])
def Fs_l5Phase0 : List Fun1 := []
def F_l5Phase0 : Fun1 := ofTree Fs_l5Phase0 tr_l5Phase0

def tr_l5Phase2 : Tr :=
  (.ret [])
def Fs_l5Phase2 : List Fun1 := []
def F_l5Phase2 : Fun1 := ofTree Fs_l5Phase2 tr_l5Phase2

def tr_l5One : Tr :=
  (.ret [(.var 0), (.var 1), (.var 2), (.int .i64 0), (.int .i64 0), (.int .i64 1), (.int .i64 0), (.int .i64 0), (.int .i64 1), (.var 3), (.var 4), (.var 5)])
def Fs_l5One : List Fun1 := []
def F_l5One : Fun1 := ofTree Fs_l5One tr_l5One
def A_l5One : AF := absT [] tr_l5One
theorem aok_l5One {cb : CodeB} : AOK cb F_l5One A_l5One := tree_aok AOKs.nil tr_l5One

def tr_l8Layer : Tr :=
  (.ite (.cmp .eql (.var 3) (.int .i64 3))
  (.ite (.cmp .eql (.var 3) (.int .i64 0))
   (.evs [.call 0 [] none 0,
      .call 0 [] none 0,
      .call 2 [(.int .i64 1), (.int .i64 0), (.int .i64 1), (.int .i64 1), (.int .i64 0), (.int .i64 1)] none 12]
    (.ret [(.var 4), (.var 5), (.var 6), (.var 7), (.var 8), (.var 9), (.var 10), (.var 11), (.var 12), (.var 13), (.var 14), (.var 15), (.bool true)]))
   (.ite (.cmp .eql (.var 3) (.int .i64 2))
    (.evs [.call 1 [] none 0,
       .call 1 [] none 0,
       .call 2 [(.int .i64 (-1)), (.int .i64 0), (.int .i64 1), (.int .i64 (-1)), (.int .i64 0), (.int .i64 1)] none 12]
     (.ret [(.var 4), (.var 5), (.var 6), (.var 7), (.var 8), (.var 9), (.var 10), (.var 11), (.var 12), (.var 13), (.var 14), (.var 15), (.bool true)]))
    (.evs [.call 3 [(.int .i64 0), (.int .i64 (-1)), (.int .i64 1), (.var 0), (.var 1), (.var 2)] none 4]
     (.evs [.call 4 [(.int .i64 0), (.int .i64 (-1)), (.int .i64 1), (.var 0), (.var 1), (.var 2)] none 4]
     (.evs [.call 5 [(.int .i64 0), (.int .i64 0), (.int .i64 1), (.var 4), (.var 5), (.var 6), (.var 8), (.var 9), (.var 10), (.int .i64 0), (.int .i64 0), (.int .i64 1), (.ite (.var 7) (.var 11) (.bool false))] none 13]
     (.ret [(.var 12), (.var 13), (.var 14), (.var 15), (.var 16), (.var 17), (.var 18), (.var 19), (.var 20), (.var 21), (.var 22), (.var 23), (.var 24)]))))))
  (.ite (.cmp .eql (.var 3) (.int .i64 0))
   (.evs [.call 0 [] none 0,
      .call 0 [] none 0,
      .call 2 [(.int .i64 1), (.int .i64 0), (.int .i64 1), (.int .i64 1), (.int .i64 0), (.int .i64 1)] none 12]
    (.ret [(.var 4), (.var 5), (.var 6), (.var 7), (.var 8), (.var 9), (.var 10), (.var 11), (.var 12), (.var 13), (.var 14), (.var 15), (.bool true)]))
   (.ite (.cmp .eql (.var 3) (.int .i64 2))
    (.evs [.call 1 [] none 0,
       .call 1 [] none 0,
       .call 2 [(.int .i64 (-1)), (.int .i64 0), (.int .i64 1), (.int .i64 (-1)), (.int .i64 0), (.int .i64 1)] none 12]
     (.ret [(.var 4), (.var 5), (.var 6), (.var 7), (.var 8), (.var 9), (.var 10), (.var 11), (.var 12), (.var 13), (.var 14), (.var 15), (.bool true)]))
    (.evs [.call 3 [(.int .i64 0), (.int .i64 1), (.int .i64 1), (.var 0), (.var 1), (.var 2)] none 4]
     (.evs [.call 4 [(.int .i64 0), (.int .i64 1), (.int .i64 1), (.var 0), (.var 1), (.var 2)] none 4]
     (.evs [.call 5 [(.int .i64 0), (.int .i64 0), (.int .i64 1), (.var 4), (.var 5), (.var 6), (.var 8), (.var 9), (.var 10), (.int .i64 0), (.int .i64 0), (.int .i64 1), (.ite (.var 7) (.var 11) (.bool false))] none 13]
     (.ret [(.var 12), (.var 13), (.var 14), (.var 15), (.var 16), (.var 17), (.var 18), (.var 19), (.var 20), (.var 21), (.var 22), (.var 23), (.var 24)])))))))
def Fs_l8Layer : List Fun1 := [F_l5Phase0, F_l5Phase2, F_l5One, G_sFracOver, G_sFracTimes, G_l5Four]
def F_l8Layer : Fun1 := ofTree Fs_l8Layer tr_l8Layer
def G_l8Layer : Fun1 := ⟨fun _ => True, fun ins => layW (q3 ins 0) (i0 ins 3)⟩
theorem as_l8Layer (ins : List Value) (ht : TypedL [.int .i64, .int .i64, .int .i64, .int .i64] ins) (_ : G_l8Layer.pre ins) : F_l8Layer.pre ins ∧ F_l8Layer.out ins = G_l8Layer.out ins := by
  obtain ⟨a, b, c, q, rfl, _⟩ := ints4 ht
  refine ⟨okT_mask (m := [true, true, true, true, true, true]) (.yes (fun _ => okT_free (fun F hF => by cases hF) _ _ (by kernel_rfl)) (.yes (fun _ => okT_free (fun F hF => by cases hF) _ _ (by kernel_rfl)) (.yes (fun _ => okT_free (fun F hF => by cases hF) _ _ (by kernel_rfl)) (.yes (fun _ => trivial) (.yes (fun _ => trivial) (.yes (fun _ => trivial) .nil)))))) _ _ (by kernel_rfl), ?_⟩
  show evalT Fs_l8Layer tr_l8Layer _ = layW (a, b, c) q
  by_cases h0 : q = 0
  · subst h0
    exact (layW_eq rfl).symm ▸ rfl
  · by_cases h2 : q = 2
    · subst h2
      exact (layW_eq rfl).symm ▸ rfl
    · rw [layW_eq (lay_part h0 h2)]
      unfold tr_l8Layer
      by_cases h3 : q = 3
      · have hu : unitOf q = (0, -1, 1) := by simp [unitOf, h3]
        rw [hu]
        subst h3
        simp only [Fs_l8Layer, G_sFracOver, G_sFracTimes, G_l5Four, q3, fr4, gotV, ofTree, okT, okE, evalT, evalE, evsIn, ev, callF, preF, hasF, needs, i0, b0, toI_int, toB_bool, List.getD_cons_zero, List.getD_cons_succ, List.cons_append, List.nil_append, List.replicate, if_true, if_false, Bool.false_eq_true, and_true, true_and, implies_true, forall_const, false_implies, cmpI, Bool.not_true, Bool.not_false, Bool.true_and, Bool.false_and, Bool.and_true, Bool.and_false, reduceIte, List.append_nil, reduceCtorEq]
        cases ho : overQ (0, -1, 1) (a, b, c) with
        | none => simp [zeros]
        | some o => cases ht : timesQ (0, -1, 1) (a, b, c) <;> simp [zeros, fl3, nil1]
      · have hu : unitOf q = (0, 1, 1) := by simp [unitOf, h3]
        rw [hu]
        simp only [beq_eq_false_iff_ne.2 h0, beq_eq_false_iff_ne.2 h2, beq_eq_false_iff_ne.2 h3, Fs_l8Layer, G_sFracOver, G_sFracTimes, G_l5Four, q3, fr4, gotV, ofTree, okT, okE, evalT, evalE, evsIn, ev, callF, preF, hasF, needs, i0, b0, toI_int, toB_bool, List.getD_cons_zero, List.getD_cons_succ, List.cons_append, List.nil_append, List.replicate, if_true, if_false, Bool.false_eq_true, and_true, true_and, implies_true, forall_const, false_implies, cmpI, Bool.not_true, Bool.not_false, Bool.true_and, Bool.false_and, Bool.and_true, Bool.and_false, reduceIte, List.append_nil, reduceCtorEq]
        cases ho : overQ (0, 1, 1) (a, b, c) with
        | none => simp [zeros]
        | some o => cases ht : timesQ (0, 1, 1) (a, b, c) <;> simp [zeros, fl3, nil1]

def tr_iFilmMat : Tr :=
  (.evs [.call 0 [(.var 0), (.var 1)] none 1]
  (.ite (.not (.var 2))
  (.ret [(.int .i64 0), (.int .i64 0), (.int .i64 0), (.int .i64 0), (.int .i64 0), (.int .i64 0), (.int .i64 0), (.int .i64 0), (.int .i64 0), (.int .i64 0), (.int .i64 0), (.int .i64 0), (.bool false)])
  (.lp 0 [(.int .i64 0), (.int .i64 1), (.int .i64 0), (.int .i64 1), (.int .i64 0), (.int .i64 0), (.int .i64 1), (.int .i64 0), (.int .i64 0), (.int .i64 1), (.int .i64 1), (.int .i64 0), (.int .i64 1)] [.int .i64, .int .i64, .int .i64, .int .i64, .int .i64, .int .i64, .int .i64, .int .i64, .int .i64, .int .i64, .int .i64, .int .i64, .int .i64]
   (.ite (.cmp .lss (.var 3) (.len (.var 0)))
    (.evs [.need [(.inb (.var 1) (.var 3) 4)]]
     (.evs [.call 1 [(.sel (.var 1) (.var 3) 4 0), (.sel (.var 1) (.var 3) 4 1), (.sel (.var 1) (.var 3) 4 2), (.sel (.var 1) (.var 3) 4 3)] none 13]
     (.evs [.call 2 [(.var 4), (.var 5), (.var 6), (.var 7), (.var 8), (.var 9), (.var 10), (.var 11), (.var 12), (.var 13), (.var 14), (.var 15), (.var 16), (.var 17), (.var 18), (.var 19), (.var 20), (.var 21), (.var 22), (.var 23), (.var 24), (.var 25), (.var 26), (.var 27)] none 13]
     (.ite (.ite (.not (.var 28)) (.bool true) (.not (.var 41)))
     (.ret [(.int .i64 0), (.int .i64 0), (.int .i64 0), (.int .i64 0), (.int .i64 0), (.int .i64 0), (.int .i64 0), (.int .i64 0), (.int .i64 0), (.int .i64 0), (.int .i64 0), (.int .i64 0), (.bool false)])
     (.next 0 [(.ar .add .i64 (.var 3) (.int .i64 1)), (.var 29), (.var 30), (.var 31), (.var 32), (.var 33), (.var 34), (.var 35), (.var 36), (.var 37), (.var 38), (.var 39), (.var 40)])))))
    (.ret [(.var 4), (.var 5), (.var 6), (.var 7), (.var 8), (.var 9), (.var 10), (.var 11), (.var 12), (.var 13), (.var 14), (.var 15), (.bool true)])))))
def Fs_iFilmMat : List Fun1 := [F_iFilmValid, G_layerMat, G_iMatTimes]
def sameL : List Value := ivs (fun i => if i = 0 then 1 else if i = 2 then 1 else if i = 5 then 1 else if i = 8 then 1 else if i = 9 then 1 else if i = 11 then 1 else 0) 0 12
def layO (c : Value) (k : Nat) : List Value := layW (rq c k 0, rq c k 1, rq c k 2) (rq c k 3)
def filmStep (c : Value) (k : Nat) (acc : List Value) : Option (List Value) :=
  if b0 (layO c k) 12 && b0 (G_iMatTimes.out (acc ++ (layO c k).take 12)) 12 then some ((G_iMatTimes.out (acc ++ (layO c k).take 12)).take 12) else none
def filmR (c : Value) : Nat → Option (List Value)
  | 0 => some sameL
  | k + 1 => (filmR c k).bind (filmStep c k)
theorem filmR_none {c : Value} {k : Nat} (h : filmR c k = none) : ∀ j, filmR c (k + j) = none
  | 0 => h
  | j + 1 => by rw [show k + (j + 1) = (k + j) + 1 by omega, filmR, filmR_none h j]; rfl
theorem filmR_lit {c : Value} : ∀ {k : Nat} {acc : List Value}, filmR c k = some acc → ∃ h : Nat → Int, acc = ivs h 0 12
  | 0, acc, h => ⟨_, (Option.some.inj h).symm⟩
  | k + 1, acc, h => by
    obtain ⟨a, _, h2⟩ := Option.bind_eq_some_iff.1 h
    unfold filmStep at h2
    split at h2
    · exact ⟨_, (Option.some.inj h2).symm⟩
    · cases h2
def filmO (c : Value) (n : Nat) : List Value := match filmR c n with
  | some acc => acc ++ [.bool true]
  | none => zeros 12 ++ [.bool false]
def filmV (x c : Value) : List Value := if (allB (layP c) 0 (rlen x) && decide (lenV x ≤ 8)) = true then filmO c (rlen x) else zeros 12 ++ [.bool false]
theorem filmV_lit (x c : Value) : ∃ (h : Nat → Int) (t : Bool), filmV x c = ivs h 0 12 ++ [.bool t] := by
  unfold filmV filmO
  split
  · cases hr : filmR c (rlen x) with
    | none => exact ⟨fun _ => 0, false, rfl⟩
    | some acc =>
      obtain ⟨h, rfl⟩ := filmR_lit hr
      exact ⟨h, true, rfl⟩
  · exact ⟨fun _ => 0, false, rfl⟩
theorem film_len (x c : Value) : (filmV x c).length = 13 := by
  obtain ⟨h, t, hR⟩ := filmV_lit x c
  rw [hR]; rfl
def F_iFilmMat : Fun1 := ⟨fun ins => Fit4 (ins.getD 0 undef) (ins.getD 1 undef), fun ins => filmV (ins.getD 0 undef) (ins.getD 1 undef)⟩
theorem sat_iFilmMat (P : Program) (ins : List Value) (K : List Value → Prop) (ht : TypedL [.sl, .row .i64 4] ins) (hp : F_iFilmMat.pre ins) (hK : K (F_iFilmMat.out ins)) : sat P (specsOf Fs_iFilmMat) tr_iFilmMat ins [] K := by
  obtain ⟨x, c, rfl, hx, hcT⟩ := two_of ht
  obtain ⟨a, n, cap, rfl, hc, hn⟩ : Fit4 x c := hp
  have hout : F_iFilmMat.out [.slice a n cap, c] = if (allB (layP c) 0 n && decide ((n : Int) ≤ 8)) = true then filmO c n else zeros 12 ++ [.bool false] := rfl
  rw [hout] at hK
  refine ⟨⟨a, n, cap, rfl, hc, hn⟩, ?_⟩
  show sat P _ _ ([Value.slice a n cap, c] ++ [.bool (allB (layP c) 0 n && decide ((n : Int) ≤ 8))]) _ K
  cases hV : (allB (layP c) 0 n && decide ((n : Int) ≤ 8)) with
  | false =>
    rw [hV] at hK
    exact ⟨fun _ => hK, fun h => (by cases h)⟩
  | true =>
    rw [hV] at hK
    have hK : K (filmO c n) := hK
    refine ⟨fun h => (by cases h), fun _ => ?_⟩
    refine ⟨fun vs => ∃ k : Nat, vs.getD 0 undef = .int .i64 k ∧ k ≤ n ∧ filmR c k = some (vs.drop 1), fun vs => n - (toI (vs.getD 0 undef)).toNat, ⟨0, rfl, Nat.zero_le _, rfl⟩, ?_⟩
    rintro vs hty ⟨k, hk0, hk, hf⟩
    obtain ⟨g, r, rfl, h1, _⟩ := ints_lit (ts := []) 13 0 hty
    obtain rfl := ints0 h1
    rw [List.append_nil] at *
    have hg : g 0 = (k : Int) := by
      have : Value.int .i64 (g 0) = .int .i64 k := hk0
      simpa using this
    have e : ivs g 0 13 = .int .i64 k :: ivs g 1 12 := by rw [ivs, hg]
    rw [e] at hf ⊢
    have hf : filmR c k = some (ivs g 1 12) := hf
    have failed : filmStep c k (ivs g 1 12) = none → k < n → K (zeros 12 ++ [.bool false]) := fun hs hlt => by
      have h1 : filmR c (k + 1) = none := by rw [filmR, hf]; exact hs
      have h2 := filmR_none h1 (n - (k + 1))
      rw [show k + 1 + (n - (k + 1)) = n by omega] at h2
      have : filmO c n = zeros 12 ++ [.bool false] := by unfold filmO; rw [h2]
      rw [this] at hK
      exact hK
    refine ⟨fun h => ?_, fun h => ?_⟩
    · have hlt : k < n := by
        have : decide ((k : Int) < (n : Int)) = true := Value.bool.inj h
        simpa using this
      have hin := inb_ok hc hlt
      refine ⟨fun e he => by rw [List.mem_singleton.1 he]; exact hin, trivial, ?_⟩
      refine ⟨trivial, ?_⟩
      have hstep : filmStep c k (ivs g 1 12) = if b0 (layO c k) 12 && b0 (G_iMatTimes.out (ivs g 1 12 ++ (layO c k).take 12)) 12 then some ((G_iMatTimes.out (ivs g 1 12 ++ (layO c k).take 12)).take 12) else none := rfl
      refine ⟨fun h2 => ?_, fun h2 => ?_⟩
      · have h2 : (if toB (.bool (!b0 (layO c k) 12)) = true then Value.bool true else .bool (!b0 (G_iMatTimes.out (ivs g 1 12 ++ (layO c k).take 12)) 12)) = .bool true := h2
        refine failed ?_ hlt
        rw [hstep]
        cases hm : b0 (layO c k) 12 with
        | false => rfl
        | true =>
          rw [hm] at h2
          have h2 := Value.bool.inj h2
          cases hr : b0 (G_iMatTimes.out (ivs g 1 12 ++ (layO c k).take 12)) 12 with
          | false => rfl
          | true => rw [hr] at h2; cases h2
      · have h2 : (if toB (.bool (!b0 (layO c k) 12)) = true then Value.bool true else .bool (!b0 (G_iMatTimes.out (ivs g 1 12 ++ (layO c k).take 12)) 12)) = .bool false := h2
        have hok : filmStep c k (ivs g 1 12) = some ((G_iMatTimes.out (ivs g 1 12 ++ (layO c k).take 12)).take 12) := by
          rw [hstep]
          cases hm : b0 (layO c k) 12 with
          | false => rw [hm] at h2; cases h2
          | true =>
            rw [hm] at h2
            have h2 := Value.bool.inj h2
            cases hr : b0 (G_iMatTimes.out (ivs g 1 12 ++ (layO c k).take 12)) 12 with
            | false => rw [hr] at h2; cases h2
            | true => rfl
        refine ⟨⟨k + 1, congrArg (Value.int .i64) (wrap_next hlt hn), by omega, ?_⟩, ?_⟩
        · rw [filmR, hf]; exact hok
        · show n - (toI (.int .i64 (IntKind.i64.wrap ((k : Int) + 1)))).toNat < n - (toI (.int .i64 (k : Int))).toNat
          rw [wrap_next hlt hn]
          simp only [toI_int, Int.toNat_natCast]
          omega
    · have hge : ¬ k < n := by
        have : decide ((k : Int) < (n : Int)) = false := Value.bool.inj h
        simpa using this
      have hkn : k = n := by omega
      subst hkn
      have : filmO c k = ivs g 1 12 ++ [.bool true] := by unfold filmO; rw [hf]
      rw [this] at hK
      exact hK

def tr_sFilmMat : Tr :=
  (.evs [.call 1 [] none 0,
    .call 1 [] none 0,
    .call 2 [(.int .i64 1), (.int .i64 0), (.int .i64 1), (.int .i64 1), (.int .i64 0), (.int .i64 1)] none 12]
  (.evs [.call 0 [(.var 0), (.var 1)] none 1]
  (.ite (.not (.var 14))
  (.ret [(.int .i64 0), (.int .i64 0), (.int .i64 0), (.int .i64 0), (.int .i64 0), (.int .i64 0), (.int .i64 0), (.int .i64 0), (.int .i64 0), (.int .i64 0), (.int .i64 0), (.int .i64 0), (.bool false)])
  (.lp 0 [(.int .i64 0), (.var 2), (.var 3), (.var 4), (.var 5), (.var 6), (.var 7), (.var 8), (.var 9), (.var 10), (.var 11), (.var 12), (.var 13)] [.int .i64, .int .i64, .int .i64, .int .i64, .int .i64, .int .i64, .int .i64, .int .i64, .int .i64, .int .i64, .int .i64, .int .i64, .int .i64]
   (.ite (.cmp .lss (.var 15) (.len (.var 0)))
    (.evs [.need [(.inb (.var 1) (.var 15) 4)],
       .call 3 [(.sel (.var 1) (.var 15) 4 0), (.sel (.var 1) (.var 15) 4 1), (.sel (.var 1) (.var 15) 4 2), (.sel (.var 1) (.var 15) 4 3)] none 13]
     (.evs [.call 4 [(.var 16), (.var 17), (.var 18), (.var 19), (.var 20), (.var 21), (.var 22), (.var 23), (.var 24), (.var 25), (.var 26), (.var 27), (.var 28), (.var 29), (.var 30), (.var 31), (.var 32), (.var 33), (.var 34), (.var 35), (.var 36), (.var 37), (.var 38), (.var 39)] none 13]
     (.ite (.ite (.not (.var 40)) (.bool true) (.not (.var 53)))
     (.ret [(.int .i64 0), (.int .i64 0), (.int .i64 0), (.int .i64 0), (.int .i64 0), (.int .i64 0), (.int .i64 0), (.int .i64 0), (.int .i64 0), (.int .i64 0), (.int .i64 0), (.int .i64 0), (.bool false)])
     (.next 0 [(.ar .add .i64 (.var 15) (.int .i64 1)), (.var 41), (.var 42), (.var 43), (.var 44), (.var 45), (.var 46), (.var 47), (.var 48), (.var 49), (.var 50), (.var 51), (.var 52)]))))
    (.ret [(.var 16), (.var 17), (.var 18), (.var 19), (.var 20), (.var 21), (.var 22), (.var 23), (.var 24), (.var 25), (.var 26), (.var 27), (.bool true)]))))))
def Fs_sFilmMat : List Fun1 := [F_sFilmValid, F_l5Phase0, F_l5One, G_l8Layer, G_sMatTimes]
def F_sFilmMat : Fun1 := F_iFilmMat
theorem sat_sFilmMat (P : Program) (ins : List Value) (K : List Value → Prop) (ht : TypedL [.sl, .row .i64 4] ins) (hp : F_sFilmMat.pre ins) (hK : K (F_sFilmMat.out ins)) : sat P (specsOf Fs_sFilmMat) tr_sFilmMat ins [] K := by
  obtain ⟨x, c, rfl, hx, hcT⟩ := two_of ht
  obtain ⟨a, n, cap, rfl, hc, hn⟩ : Fit4 x c := hp
  have hout : F_sFilmMat.out [.slice a n cap, c] = if (allB (layP c) 0 n && decide ((n : Int) ≤ 8)) = true then filmO c n else zeros 12 ++ [.bool false] := rfl
  rw [hout] at hK
  refine ⟨okT_free (fun F hF => by cases hF) _ _ (by kernel_rfl), okT_free (fun F hF => by cases hF) _ _ (by kernel_rfl), okT_free (fun F hF => by cases hF) _ _ (by kernel_rfl), ?_⟩
  refine ⟨⟨a, n, cap, rfl, hc, hn⟩, ?_⟩
  show sat P _ _ ([Value.slice a n cap, c, .int .i64 1, .int .i64 0, .int .i64 1, .int .i64 0, .int .i64 0, .int .i64 1, .int .i64 0, .int .i64 0, .int .i64 1, .int .i64 1, .int .i64 0, .int .i64 1] ++ [.bool (allB (layP c) 0 n && decide ((n : Int) ≤ 8))]) _ K
  cases hV : (allB (layP c) 0 n && decide ((n : Int) ≤ 8)) with
  | false =>
    rw [hV] at hK
    exact ⟨fun _ => hK, fun h => (by cases h)⟩
  | true =>
    rw [hV] at hK
    have hK : K (filmO c n) := hK
    refine ⟨fun h => (by cases h), fun _ => ?_⟩
    refine ⟨fun vs => ∃ k : Nat, vs.getD 0 undef = .int .i64 k ∧ k ≤ n ∧ filmR c k = some (vs.drop 1), fun vs => n - (toI (vs.getD 0 undef)).toNat, ⟨0, rfl, Nat.zero_le _, rfl⟩, ?_⟩
    rintro vs hty ⟨k, hk0, hk, hf⟩
    obtain ⟨g, r, rfl, h1, _⟩ := ints_lit (ts := []) 13 0 hty
    obtain rfl := ints0 h1
    rw [List.append_nil] at *
    have hg : g 0 = (k : Int) := by
      have : Value.int .i64 (g 0) = .int .i64 k := hk0
      simpa using this
    have e : ivs g 0 13 = .int .i64 k :: ivs g 1 12 := by rw [ivs, hg]
    rw [e] at hf ⊢
    have hf : filmR c k = some (ivs g 1 12) := hf
    have failed : filmStep c k (ivs g 1 12) = none → k < n → K (zeros 12 ++ [.bool false]) := fun hs hlt => by
      have h1 : filmR c (k + 1) = none := by rw [filmR, hf]; exact hs
      have h2 := filmR_none h1 (n - (k + 1))
      rw [show k + 1 + (n - (k + 1)) = n by omega] at h2
      have : filmO c n = zeros 12 ++ [.bool false] := by unfold filmO; rw [h2]
      rw [this] at hK
      exact hK
    refine ⟨fun h => ?_, fun h => ?_⟩
    · have hlt : k < n := by
        have : decide ((k : Int) < (n : Int)) = true := Value.bool.inj h
        simpa using this
      have hin := inb_ok hc hlt
      refine ⟨fun e he => by rw [List.mem_singleton.1 he]; exact hin, trivial, ?_⟩
      refine ⟨trivial, ?_⟩
      have hstep : filmStep c k (ivs g 1 12) = if b0 (layO c k) 12 && b0 (G_iMatTimes.out (ivs g 1 12 ++ (layO c k).take 12)) 12 then some ((G_iMatTimes.out (ivs g 1 12 ++ (layO c k).take 12)).take 12) else none := rfl
      refine ⟨fun h2 => ?_, fun h2 => ?_⟩
      · have h2 : (if toB (.bool (!b0 (layO c k) 12)) = true then Value.bool true else .bool (!b0 (G_iMatTimes.out (ivs g 1 12 ++ (layO c k).take 12)) 12)) = .bool true := h2
        refine failed ?_ hlt
        rw [hstep]
        cases hm : b0 (layO c k) 12 with
        | false => rfl
        | true =>
          rw [hm] at h2
          have h2 := Value.bool.inj h2
          cases hr : b0 (G_iMatTimes.out (ivs g 1 12 ++ (layO c k).take 12)) 12 with
          | false => rfl
          | true => rw [hr] at h2; cases h2
      · have h2 : (if toB (.bool (!b0 (layO c k) 12)) = true then Value.bool true else .bool (!b0 (G_iMatTimes.out (ivs g 1 12 ++ (layO c k).take 12)) 12)) = .bool false := h2
        have hok : filmStep c k (ivs g 1 12) = some ((G_iMatTimes.out (ivs g 1 12 ++ (layO c k).take 12)).take 12) := by
          rw [hstep]
          cases hm : b0 (layO c k) 12 with
          | false => rw [hm] at h2; cases h2
          | true =>
            rw [hm] at h2
            have h2 := Value.bool.inj h2
            cases hr : b0 (G_iMatTimes.out (ivs g 1 12 ++ (layO c k).take 12)) 12 with
            | false => rw [hr] at h2; cases h2
            | true => rfl
        refine ⟨⟨k + 1, congrArg (Value.int .i64) (wrap_next hlt hn), by omega, ?_⟩, ?_⟩
        · rw [filmR, hf]; exact hok
        · show n - (toI (.int .i64 (IntKind.i64.wrap ((k : Int) + 1)))).toNat < n - (toI (.int .i64 (k : Int))).toNat
          rw [wrap_next hlt hn]
          simp only [toI_int, Int.toNat_natCast]
          omega
    · have hge : ¬ k < n := by
        have : decide ((k : Int) < (n : Int)) = false := Value.bool.inj h
        simpa using this
      have hkn : k = n := by omega
      subst hkn
      have : filmO c k = ivs g 1 12 ++ [.bool true] := by unfold filmO; rw [hf]
      rw [this] at hK
      exact hK

def tr_mrow0 : Tr :=
  (.evs [.call 0 [(.var 0), (.var 1), (.var 2), (.var 12), (.var 13), (.var 14), (.var 18)] none 4,
    .call 0 [(.var 3), (.var 4), (.var 5), (.var 15), (.var 16), (.var 17), (.var 22)] none 4,
    .call 1 [(.var 19), (.var 20), (.var 21), (.var 23), (.var 24), (.var 25), (.var 26)] none 4]
  (.ret [(.var 27), (.var 28), (.var 29), (.var 0), (.var 1), (.var 2), (.var 3), (.var 4), (.var 5), (.var 6), (.var 7), (.var 8), (.var 9), (.var 10), (.var 11), (.var 12), (.var 13), (.var 14), (.var 15), (.var 16), (.var 17), (.var 30)]))
def Fs_mrow0 : List Fun1 := [G_times, G_add]
def F_mrow0 : Fun1 := ofTree Fs_mrow0 tr_mrow0
def G_mrow0 : Fun1 := ⟨fun _ => True, fun ins => fl3 [(mixI (b0 ins 18) (q3 ins 0) (q3 ins 12) (q3 ins 3) (q3 ins 15)).1] ++ (copyV ins 0 18 ++ [.bool (mixI (b0 ins 18) (q3 ins 0) (q3 ins 12) (q3 ins 3) (q3 ins 15)).2])⟩
theorem out_mrow0 : (fun (g : Nat → Int) (s : Bool) => F_mrow0.out (ivs g 0 18 ++ [.bool s])) = fun g s => G_mrow0.out (ivs g 0 18 ++ [.bool s]) := by kernel_rfl
theorem as_mrow0 (ins : List Value) (ht : TypedL (intTs 18 ++ [.bool]) ins) (_ : G_mrow0.pre ins) : F_mrow0.pre ins ∧ F_mrow0.out ins = G_mrow0.out ins := by
  obtain ⟨g, r, rfl, h1, _⟩ := ints_lit 18 0 ht
  obtain ⟨s, r2, rfl, h2⟩ := bool_cons h1
  obtain rfl := ints0 h2
  exact ⟨okT_free (by intro F hF ins; simp only [Fs_mrow0, List.mem_cons, List.not_mem_nil, or_false] at hF; rcases hF with rfl | rfl <;> trivial) _ _ (by kernel_rfl), congrFun (congrFun out_mrow0 g) s⟩

def tr_mrow1 : Tr :=
  (.evs [.call 0 [(.var 6), (.var 7), (.var 8), (.var 12), (.var 13), (.var 14), (.var 18)] none 4,
    .call 0 [(.var 9), (.var 10), (.var 11), (.var 15), (.var 16), (.var 17), (.var 22)] none 4,
    .call 1 [(.var 19), (.var 20), (.var 21), (.var 23), (.var 24), (.var 25), (.var 26)] none 4]
  (.ret [(.var 27), (.var 28), (.var 29), (.var 0), (.var 1), (.var 2), (.var 3), (.var 4), (.var 5), (.var 6), (.var 7), (.var 8), (.var 9), (.var 10), (.var 11), (.var 12), (.var 13), (.var 14), (.var 15), (.var 16), (.var 17), (.var 30)]))
def Fs_mrow1 : List Fun1 := [G_times, G_add]
def F_mrow1 : Fun1 := ofTree Fs_mrow1 tr_mrow1
def G_mrow1 : Fun1 := ⟨fun _ => True, fun ins => fl3 [(mixI (b0 ins 18) (q3 ins 6) (q3 ins 12) (q3 ins 9) (q3 ins 15)).1] ++ (copyV ins 0 18 ++ [.bool (mixI (b0 ins 18) (q3 ins 6) (q3 ins 12) (q3 ins 9) (q3 ins 15)).2])⟩
theorem out_mrow1 : (fun (g : Nat → Int) (s : Bool) => F_mrow1.out (ivs g 0 18 ++ [.bool s])) = fun g s => G_mrow1.out (ivs g 0 18 ++ [.bool s]) := by kernel_rfl
theorem as_mrow1 (ins : List Value) (ht : TypedL (intTs 18 ++ [.bool]) ins) (_ : G_mrow1.pre ins) : F_mrow1.pre ins ∧ F_mrow1.out ins = G_mrow1.out ins := by
  obtain ⟨g, r, rfl, h1, _⟩ := ints_lit 18 0 ht
  obtain ⟨s, r2, rfl, h2⟩ := bool_cons h1
  obtain rfl := ints0 h2
  exact ⟨okT_free (by intro F hF ins; simp only [Fs_mrow1, List.mem_cons, List.not_mem_nil, or_false] at hF; rcases hF with rfl | rfl <;> trivial) _ _ (by kernel_rfl), congrFun (congrFun out_mrow1 g) s⟩

def tr_gotJones : Tr :=
  (.ite (.var 6)
  (.ret [(.int .i64 0), (.int .i64 0), (.int .i64 0), (.int .i64 0), (.int .i64 0), (.int .i64 0), (.bool false), (.var 6)])
  (.ret [(.var 0), (.var 1), (.var 2), (.var 3), (.var 4), (.var 5), (.bool true), (.var 6)]))
def Fs_gotJones : List Fun1 := []
def F_gotJones : Fun1 := ofTree Fs_gotJones tr_gotJones
def G_gotJones : Fun1 := ⟨fun _ => True, fun ins => gotV (b0 ins 6) ins 0 6 ++ [.bool (!b0 ins 6), .bool (b0 ins 6)]⟩
theorem out_gotJones : (fun (g : Nat → Int) => F_gotJones.out (ivs g 0 6 ++ [.bool true])) = fun g => G_gotJones.out (ivs g 0 6 ++ [.bool true]) := by kernel_rfl
theorem out_gotJones' : (fun (g : Nat → Int) => F_gotJones.out (ivs g 0 6 ++ [.bool false])) = fun g => G_gotJones.out (ivs g 0 6 ++ [.bool false]) := by kernel_rfl
theorem as_gotJones (ins : List Value) (ht : TypedL (intTs 6 ++ [.bool]) ins) (_ : G_gotJones.pre ins) : F_gotJones.pre ins ∧ F_gotJones.out ins = G_gotJones.out ins := by
  obtain ⟨g, r, rfl, h1, _⟩ := ints_lit 6 0 ht
  obtain ⟨b, r2, rfl, h2⟩ := bool_cons h1
  obtain rfl := ints0 h2
  cases b
  · exact ⟨trivial, congrFun out_gotJones' g⟩
  · exact ⟨trivial, congrFun out_gotJones g⟩

def tr_gotFrac : Tr :=
  (.ite (.var 3)
  (.ret [(.int .i64 0), (.int .i64 0), (.int .i64 0), (.bool false), (.var 3)])
  (.ret [(.var 0), (.var 1), (.var 2), (.bool true), (.var 3)]))
def Fs_gotFrac : List Fun1 := []
def F_gotFrac : Fun1 := ofTree Fs_gotFrac tr_gotFrac
def G_gotFrac : Fun1 := ⟨fun _ => True, fun ins => gotV (b0 ins 3) ins 0 3 ++ [.bool (!b0 ins 3), .bool (b0 ins 3)]⟩
theorem out_gotFrac : (fun (g : Nat → Int) => F_gotFrac.out (ivs g 0 3 ++ [.bool true])) = fun g => G_gotFrac.out (ivs g 0 3 ++ [.bool true]) := by kernel_rfl
theorem out_gotFrac' : (fun (g : Nat → Int) => F_gotFrac.out (ivs g 0 3 ++ [.bool false])) = fun g => G_gotFrac.out (ivs g 0 3 ++ [.bool false]) := by kernel_rfl
theorem as_gotFrac (ins : List Value) (ht : TypedL (intTs 3 ++ [.bool]) ins) (_ : G_gotFrac.pre ins) : F_gotFrac.pre ins ∧ F_gotFrac.out ins = G_gotFrac.out ins := by
  obtain ⟨g, r, rfl, h1, _⟩ := ints_lit 3 0 ht
  obtain ⟨b, r2, rfl, h2⟩ := bool_cons h1
  obtain rfl := ints0 h2
  cases b
  · exact ⟨trivial, congrFun out_gotFrac' g⟩
  · exact ⟨trivial, congrFun out_gotFrac g⟩

def tr_iJonesValid : Tr :=
  (.evs [.call 0 [(.var 0), (.var 1), (.var 2)] none 1,
    .call 0 [(.var 3), (.var 4), (.var 5)] (some (.var 6)) 1]
  (.ret [(.ite (.var 6) (.var 7) (.bool false))]))
def Fs_iJonesValid : List Fun1 := [G_iFracValid]
def F_iJonesValid : Fun1 := ofTree Fs_iJonesValid tr_iJonesValid
def G_iJonesValid : Fun1 := ⟨fun _ => True, fun ins => [.bool (jonesQ (q3 ins 0) (q3 ins 3))]⟩
theorem as_iJonesValid (ins : List Value) (ht : TypedL [.int .i64, .int .i64, .int .i64, .int .i64, .int .i64, .int .i64] ins) (_ : G_iJonesValid.pre ins) : F_iJonesValid.pre ins ∧ F_iJonesValid.out ins = G_iJonesValid.out ins := by
  obtain ⟨a, b, c, x, y, z, rfl, _⟩ := ints6 ht
  simp only [F_iJonesValid, G_iJonesValid, tr_iJonesValid, Fs_iJonesValid, G_iFracValid, jonesQ, validQ, q3, ofTree, okT, okE, evalT, evalE, evsIn, ev, callF, preF, hasF, needs, i0, b0, toI_int, toB_bool, List.getD_cons_zero, List.getD_cons_succ, List.cons_append, List.nil_append, List.replicate, if_true, if_false, Bool.false_eq_true, and_true, true_and, implies_true, forall_const, false_implies, cmpI, Bool.not_true, Bool.not_false, Bool.true_and, Bool.false_and, Bool.and_true, Bool.and_false, reduceIte, List.append_nil, reduceCtorEq]
  cases h : validI a b c <;> simp [h]

def tr_iMatApply : Tr :=
  (.evs [.call 0 [(.var 0), (.var 1), (.var 2), (.var 3), (.var 4), (.var 5), (.var 6), (.var 7), (.var 8), (.var 9), (.var 10), (.var 11)] none 1,
    .call 1 [(.var 12), (.var 13), (.var 14), (.var 15), (.var 16), (.var 17)] (some (.var 18)) 1,
    .call 2 [(.ite (.var 18) (.var 19) (.bool false)), (.bool false)] none 1]
  (.evs [.call 3 [(.var 0), (.var 1), (.var 2), (.var 3), (.var 4), (.var 5), (.var 6), (.var 7), (.var 8), (.var 9), (.var 10), (.var 11), (.var 12), (.var 13), (.var 14), (.var 15), (.var 16), (.var 17), (.var 20)] none 22,
    .call 4 [(.var 24), (.var 25), (.var 26), (.var 27), (.var 28), (.var 29), (.var 30), (.var 31), (.var 32), (.var 33), (.var 34), (.var 35), (.var 36), (.var 37), (.var 38), (.var 39), (.var 40), (.var 41), (.var 42)] none 22,
    .call 5 [(.var 21), (.var 22), (.var 23), (.var 43), (.var 44), (.var 45), (.var 64)] none 8]
  (.ret [(.var 65), (.var 66), (.var 67), (.var 68), (.var 69), (.var 70), (.var 71)])))
def Fs_iMatApply : List Fun1 := [G_iMatValid, G_iJonesValid, G_need, G_mrow0, G_mrow1, G_gotJones]
def F_iMatApply : Fun1 := ofTree Fs_iMatApply tr_iMatApply
def G_iMatApply : Fun1 := ⟨fun _ => True, fun ins => nttW 2 (matQ (fun k => q3 ins (3 * k)) && jonesQ (q3 ins 12) (q3 ins 15)) (applyD (fun k => q3 ins (3 * k)) (q3 ins 12) (q3 ins 15))⟩
theorem out_iMatApply : (fun (g : Nat → Int) => evalT' Fs_iMatApply tr_iMatApply (ivs g 0 18)) = fun g =>
    gotL (maI (fun k => q3 (ivs g 0 18) (3 * k)) (q3 (ivs g 0 18) 12) (q3 (ivs g 0 18) 15)).2 (maI (fun k => q3 (ivs g 0 18) (3 * k)) (q3 (ivs g 0 18) 12) (q3 (ivs g 0 18) 15)).1 ++ [.bool (!(maI (fun k => q3 (ivs g 0 18) (3 * k)) (q3 (ivs g 0 18) 12) (q3 (ivs g 0 18) 15)).2)] := by kernel_rfl
theorem as_iMatApply (ins : List Value) (ht : TypedL (intTs 18 ++ []) ins) (_ : G_iMatApply.pre ins) : F_iMatApply.pre ins ∧ F_iMatApply.out ins = G_iMatApply.out ins := by
  obtain ⟨g, r, rfl, h1, _⟩ := ints_lit 18 0 ht
  obtain rfl := ints0 h1
  rw [List.append_nil]
  refine ⟨okT_free (by intro F hF ins; simp only [Fs_iMatApply, List.mem_cons, List.not_mem_nil, or_false] at hF; rcases hF with rfl | rfl | rfl | rfl | rfl | rfl <;> trivial) _ _ (by kernel_rfl), (evalT_sel (lens := [1, 1]) (Lens.cons (fun _ => rfl) (Lens.cons (fun _ => rfl) Lens.nil)) _ _ (by kernel_rfl)).trans ((congrFun out_iMatApply g).trans ?_)⟩
  exact (maI_eq _ _ _).trans (nttV_eq _ _ _)

def tr_film : Tr :=
  (.evs [.call 0 [(.var 0), (.var 7)] none 13]
  (.evs [.call 1 [(.var 1), (.var 2), (.var 3)] (some (.not (.not (.var 20)))) 1,
    .call 1 [(.var 4), (.var 5), (.var 6)] (some (.not (.ite (.not (.var 20)) (.bool true) (.not (.var 21))))) 1]
  (.ite (.ite (.ite (.not (.var 20)) (.bool true) (.not (.var 21))) (.bool true) (.not (.var 22)))
  (.ret [(.int .i64 0), (.int .i64 0), (.int .i64 0), (.int .i64 0), (.int .i64 0), (.int .i64 0), (.int .i64 0), (.int .i64 0), (.int .i64 0), (.bool false)])
  (.evs [.call 2 [(.var 8), (.var 9), (.var 10), (.var 11), (.var 12), (.var 13), (.var 14), (.var 15), (.var 16), (.var 17), (.var 18), (.var 19), (.int .i64 1), (.int .i64 0), (.int .i64 1), (.var 4), (.var 5), (.var 6)] none 7]
   (.evs [.call 3 [(.var 29), (.bool false)] none 1]
   (.evs [.call 4 [(.var 1), (.var 2), (.var 3), (.var 23), (.var 24), (.var 25), (.var 30)] none 4]
   (.evs [.call 5 [(.var 31), (.var 32), (.var 33), (.var 26), (.var 27), (.var 28), (.var 34)] none 4]
   (.ret [(.var 31), (.var 32), (.var 33), (.var 26), (.var 27), (.var 28), (.var 35), (.var 36), (.var 37), (.ite (.not (.var 38)) (.not (.ite (.cmp .eql (.var 35) (.int .i64 0)) (.ite (.cmp .eql (.var 36) (.int .i64 0)) (.cmp .eql (.var 37) (.int .i64 1)) (.bool false)) (.bool false))) (.bool false))]))))))))
def Fs_film : List Fun1 := [F_iFilmMat, G_indexOk, G_iMatApply, G_need, G_times, G_add]
def F_film : Fun1 := ofTree Fs_film tr_film
def matOf (x c : Value) (k : Nat) : Q := q3 (filmV x c) (3 * k)
def okOf (x c : Value) : Bool := b0 (filmV x c) 12
def G_film : Fun1 := ⟨fun ins => Fit4 (ins.getD 0 undef) (ins.getD 7 undef), fun ins => fl3 [(filmF (matOf (ins.getD 0 undef) (ins.getD 7 undef)) (okOf (ins.getD 0 undef) (ins.getD 7 undef)) (q3 ins 1) (q3 ins 4)).1, (filmF (matOf (ins.getD 0 undef) (ins.getD 7 undef)) (okOf (ins.getD 0 undef) (ins.getD 7 undef)) (q3 ins 1) (q3 ins 4)).2.1, (filmF (matOf (ins.getD 0 undef) (ins.getD 7 undef)) (okOf (ins.getD 0 undef) (ins.getD 7 undef)) (q3 ins 1) (q3 ins 4)).2.2.1] ++ [.bool (filmF (matOf (ins.getD 0 undef) (ins.getD 7 undef)) (okOf (ins.getD 0 undef) (ins.getD 7 undef)) (q3 ins 1) (q3 ins 4)).2.2.2]⟩
theorem out_film : (fun (h : Nat → Int) (x c : Value) (a0 a1 a2 b0' b1 b2 : Int) (t : Bool) => evalT' Fs_film (tailT tr_film) ([x, .int .i64 a0, .int .i64 a1, .int .i64 a2, .int .i64 b0', .int .i64 b1, .int .i64 b2, c] ++ (ivs h 0 12 ++ [.bool t]))) = fun h x c a0 a1 a2 b0' b1 b2 t => filmG (fun k => q3 (ivs h 0 12 ++ [.bool t]) (3 * k)) t (a0, a1, a2) (b0', b1, b2) := by kernel_rfl
theorem as_film (ins : List Value) (ht : TypedL [.sl, .int .i64, .int .i64, .int .i64, .int .i64, .int .i64, .int .i64, .row .i64 4] ins) (hp : G_film.pre ins) : F_film.pre ins ∧ F_film.out ins = G_film.out ins := by
  obtain ⟨x, r, rfl, hx, ht1⟩ := TypedL_cons ht
  obtain ⟨a0, r, rfl, _, ht2⟩ := int_cons ht1
  obtain ⟨a1, r, rfl, _, ht3⟩ := int_cons ht2
  obtain ⟨a2, r, rfl, _, ht4⟩ := int_cons ht3
  obtain ⟨b0', r, rfl, _, ht5⟩ := int_cons ht4
  obtain ⟨b1, r, rfl, _, ht6⟩ := int_cons ht5
  obtain ⟨b2, r, rfl, _, ht7⟩ := int_cons ht6
  obtain ⟨c, r, rfl, hc, ht8⟩ := TypedL_cons ht7
  obtain rfl := TypedL_nil ht8
  obtain ⟨h, t, hR⟩ := filmV_lit x c
  have hp : Fit4 x c := hp
  have hm : matOf x c = fun k => q3 (ivs h 0 12 ++ [.bool t]) (3 * k) := funext fun k => by unfold matOf; rw [hR]
  have htt : okOf x c = t := by unfold okOf; rw [hR]; rfl
  have hG : G_film.out [x, .int .i64 a0, .int .i64 a1, .int .i64 a2, .int .i64 b0', .int .i64 b1, .int .i64 b2, c] = fl3 [(filmF (matOf x c) (okOf x c) (a0, a1, a2) (b0', b1, b2)).1, (filmF (matOf x c) (okOf x c) (a0, a1, a2) (b0', b1, b2)).2.1, (filmF (matOf x c) (okOf x c) (a0, a1, a2) (b0', b1, b2)).2.2.1] ++ [.bool (filmF (matOf x c) (okOf x c) (a0, a1, a2) (b0', b1, b2)).2.2.2] := rfl
  have hF : F_iFilmMat.out [x, c] = ivs h 0 12 ++ [.bool t] := hR
  rw [hG, hm, htt]
  refine ⟨⟨⟨hp, trivial⟩, ?_⟩, ?_⟩
  · show okT Fs_film _ ([x, .int .i64 a0, .int .i64 a1, .int .i64 a2, .int .i64 b0', .int .i64 b1, .int .i64 b2, c] ++ F_iFilmMat.out [x, c])
    exact okT_mask (m := [false, true, true, true, true, true]) (.no (.yes (fun _ => trivial) (.yes (fun _ => trivial) (.yes (fun _ => trivial) (.yes (fun _ => trivial) (.yes (fun _ => trivial) .nil)))))) _ _ (by kernel_rfl)
  · show evalT Fs_film (tailT tr_film) ([x, .int .i64 a0, .int .i64 a1, .int .i64 a2, .int .i64 b0', .int .i64 b1, .int .i64 b2, c] ++ F_iFilmMat.out [x, c]) = _
    have hL : Lens Fs_film [13, 1] := Lens.cons (fun _ => film_len _ _) (Lens.cons (fun _ => rfl) Lens.nil)
    rw [hF, evalT_sel hL _ _ (by kernel_rfl)]
    refine (congrFun (congrFun (congrFun (congrFun (congrFun (congrFun (congrFun (congrFun (congrFun (congrFun out_film h) x) c) a0) a1) a2) b0') b1) b2) t).trans ?_
    exact filmG_eq _ _ _ _

def tr_iFilmReflected : Tr :=
  (.evs [.call 0 [(.var 0), (.var 1), (.var 2), (.var 3), (.var 4), (.var 5), (.var 6), (.var 7)] none 10]
  (.evs [.call 1 [(.var 17), (.bool false)] none 1]
  (.evs [.call 2 [(.var 8), (.var 9), (.var 10), (.var 11), (.var 12), (.var 13), (.var 18)] none 4,
    .call 3 [(.var 19), (.var 20), (.var 21), (.var 14), (.var 15), (.var 16), (.var 22)] none 4,
    .call 4 [(.var 23), (.var 24), (.var 25), (.var 26)] none 5]
  (.ret [(.var 27), (.var 28), (.var 29), (.var 30)]))))
def Fs_iFilmReflected : List Fun1 := [G_film, G_need, G_less, G_over, G_gotFrac]
def F_iFilmReflected : Fun1 := ofTree Fs_iFilmReflected tr_iFilmReflected
def G_iFilmReflected : Fun1 := ⟨fun ins => Fit4 (ins.getD 0 undef) (ins.getD 7 undef), fun ins => fr4 (reflQ (matOf (ins.getD 0 undef) (ins.getD 7 undef)) (okOf (ins.getD 0 undef) (ins.getD 7 undef)) (q3 ins 1) (q3 ins 4))⟩
theorem as_iFilmReflected (ins : List Value) (ht : TypedL [.sl, .int .i64, .int .i64, .int .i64, .int .i64, .int .i64, .int .i64, .row .i64 4] ins) (hp : G_iFilmReflected.pre ins) : F_iFilmReflected.pre ins ∧ F_iFilmReflected.out ins = G_iFilmReflected.out ins := by
  obtain ⟨x, r, rfl, hx, ht1⟩ := TypedL_cons ht
  obtain ⟨a0, r, rfl, _, ht2⟩ := int_cons ht1
  obtain ⟨a1, r, rfl, _, ht3⟩ := int_cons ht2
  obtain ⟨a2, r, rfl, _, ht4⟩ := int_cons ht3
  obtain ⟨b0', r, rfl, _, ht5⟩ := int_cons ht4
  obtain ⟨b1, r, rfl, _, ht6⟩ := int_cons ht5
  obtain ⟨b2, r, rfl, _, ht7⟩ := int_cons ht6
  obtain ⟨c, r, rfl, hc, ht8⟩ := TypedL_cons ht7
  obtain rfl := TypedL_nil ht8
  have hp : Fit4 x c := hp
  have hG : G_iFilmReflected.out [x, .int .i64 a0, .int .i64 a1, .int .i64 a2, .int .i64 b0', .int .i64 b1, .int .i64 b2, c] = fr4 (reflQ (matOf x c) (okOf x c) (a0, a1, a2) (b0', b1, b2)) := rfl
  rw [hG]
  simp only [F_iFilmReflected, tr_iFilmReflected, Fs_iFilmReflected, G_film, G_need, G_less, G_over, G_gotFrac, hp, q3, fr4, fr3, fl3, ofTree, okT, okE, evalT, evalE, evsIn, ev, callF, preF, hasF, needs, i0, b0, toI_int, toB_bool, List.getD_cons_zero, List.getD_cons_succ, List.cons_append, List.nil_append, List.replicate, if_true, if_false, Bool.false_eq_true, and_true, true_and, implies_true, forall_const, false_implies, cmpI, Bool.not_true, Bool.not_false, Bool.true_and, Bool.false_and, Bool.and_true, Bool.and_false, reduceIte, List.append_nil, reduceCtorEq]
  unfold reflQ
  cases he : filmE (matOf x c) (okOf x c) (a0, a1, a2) (b0', b1, b2) with
  | none => simp [filmF_none he, gotV, zq]
  | some y =>
    obtain ⟨p, d, s⟩ := y
    simp only [filmF_some he, Option.bind_some]
    cases hl : lessQ p d with
    | none => simp [gotV, zq]
    | some u => cases ho : overQ u s <;> simp [gotV, zq, ho, i0]

def tr_crossed : Tr :=
  (.evs [.call 0 [(.var 0), (.var 1), (.var 2), (.var 15), (.var 16), (.var 17), (.bool false)] none 4,
    .call 0 [(.var 3), (.var 4), (.var 5), (.var 12), (.var 13), (.var 14), (.var 27)] none 4]
  (.ite (.ite (.not (.ite (.cmp .eql (.var 24) (.var 28)) (.ite (.cmp .eql (.var 25) (.var 29)) (.cmp .eql (.var 26) (.var 30)) (.bool false)) (.bool false))) (.bool true) (.var 31))
  (.ret [(.bool false), (.var 0), (.var 1), (.var 2), (.var 3), (.var 4), (.var 5), (.var 6), (.var 7), (.var 8), (.var 9), (.var 10), (.var 11), (.var 12), (.var 13), (.var 14), (.var 15), (.var 16), (.var 17), (.var 18), (.var 19), (.var 20), (.var 21), (.var 22), (.var 23)])
  (.evs [.call 0 [(.var 0), (.var 1), (.var 2), (.var 18), (.var 19), (.var 20), (.var 31)] none 4,
     .call 0 [(.var 6), (.var 7), (.var 8), (.var 12), (.var 13), (.var 14), (.var 35)] none 4]
   (.ite (.ite (.not (.ite (.cmp .eql (.var 32) (.var 36)) (.ite (.cmp .eql (.var 33) (.var 37)) (.cmp .eql (.var 34) (.var 38)) (.bool false)) (.bool false))) (.bool true) (.var 39))
   (.ret [(.bool false), (.var 0), (.var 1), (.var 2), (.var 3), (.var 4), (.var 5), (.var 6), (.var 7), (.var 8), (.var 9), (.var 10), (.var 11), (.var 12), (.var 13), (.var 14), (.var 15), (.var 16), (.var 17), (.var 18), (.var 19), (.var 20), (.var 21), (.var 22), (.var 23)])
   (.evs [.call 0 [(.var 0), (.var 1), (.var 2), (.var 21), (.var 22), (.var 23), (.var 39)] none 4,
      .call 0 [(.var 9), (.var 10), (.var 11), (.var 12), (.var 13), (.var 14), (.var 43)] none 4]
    (.ite (.ite (.not (.ite (.cmp .eql (.var 40) (.var 44)) (.ite (.cmp .eql (.var 41) (.var 45)) (.cmp .eql (.var 42) (.var 46)) (.bool false)) (.bool false))) (.bool true) (.var 47))
    (.ret [(.bool false), (.var 0), (.var 1), (.var 2), (.var 3), (.var 4), (.var 5), (.var 6), (.var 7), (.var 8), (.var 9), (.var 10), (.var 11), (.var 12), (.var 13), (.var 14), (.var 15), (.var 16), (.var 17), (.var 18), (.var 19), (.var 20), (.var 21), (.var 22), (.var 23)])
    (.evs [.call 0 [(.var 3), (.var 4), (.var 5), (.var 12), (.var 13), (.var 14), (.var 47)] none 4,
       .call 0 [(.var 0), (.var 1), (.var 2), (.var 15), (.var 16), (.var 17), (.var 51)] none 4]
     (.ite (.ite (.not (.ite (.cmp .eql (.var 48) (.var 52)) (.ite (.cmp .eql (.var 49) (.var 53)) (.cmp .eql (.var 50) (.var 54)) (.bool false)) (.bool false))) (.bool true) (.var 55))
     (.ret [(.bool false), (.var 0), (.var 1), (.var 2), (.var 3), (.var 4), (.var 5), (.var 6), (.var 7), (.var 8), (.var 9), (.var 10), (.var 11), (.var 12), (.var 13), (.var 14), (.var 15), (.var 16), (.var 17), (.var 18), (.var 19), (.var 20), (.var 21), (.var 22), (.var 23)])
     (.ite (.var 55)
      (.ret [(.bool false), (.var 0), (.var 1), (.var 2), (.var 3), (.var 4), (.var 5), (.var 6), (.var 7), (.var 8), (.var 9), (.var 10), (.var 11), (.var 12), (.var 13), (.var 14), (.var 15), (.var 16), (.var 17), (.var 18), (.var 19), (.var 20), (.var 21), (.var 22), (.var 23)])
      (.evs [.call 0 [(.var 3), (.var 4), (.var 5), (.var 18), (.var 19), (.var 20), (.var 55)] none 4,
         .call 0 [(.var 6), (.var 7), (.var 8), (.var 15), (.var 16), (.var 17), (.var 59)] none 4]
       (.ite (.ite (.not (.ite (.cmp .eql (.var 56) (.var 60)) (.ite (.cmp .eql (.var 57) (.var 61)) (.cmp .eql (.var 58) (.var 62)) (.bool false)) (.bool false))) (.bool true) (.var 63))
       (.ret [(.bool false), (.var 0), (.var 1), (.var 2), (.var 3), (.var 4), (.var 5), (.var 6), (.var 7), (.var 8), (.var 9), (.var 10), (.var 11), (.var 12), (.var 13), (.var 14), (.var 15), (.var 16), (.var 17), (.var 18), (.var 19), (.var 20), (.var 21), (.var 22), (.var 23)])
       (.evs [.call 0 [(.var 3), (.var 4), (.var 5), (.var 21), (.var 22), (.var 23), (.var 63)] none 4,
          .call 0 [(.var 9), (.var 10), (.var 11), (.var 15), (.var 16), (.var 17), (.var 67)] none 4]
        (.ite (.ite (.not (.ite (.cmp .eql (.var 64) (.var 68)) (.ite (.cmp .eql (.var 65) (.var 69)) (.cmp .eql (.var 66) (.var 70)) (.bool false)) (.bool false))) (.bool true) (.var 71))
        (.ret [(.bool false), (.var 0), (.var 1), (.var 2), (.var 3), (.var 4), (.var 5), (.var 6), (.var 7), (.var 8), (.var 9), (.var 10), (.var 11), (.var 12), (.var 13), (.var 14), (.var 15), (.var 16), (.var 17), (.var 18), (.var 19), (.var 20), (.var 21), (.var 22), (.var 23)])
        (.evs [.call 0 [(.var 6), (.var 7), (.var 8), (.var 12), (.var 13), (.var 14), (.var 71)] none 4,
           .call 0 [(.var 0), (.var 1), (.var 2), (.var 18), (.var 19), (.var 20), (.var 75)] none 4]
         (.ite (.ite (.not (.ite (.cmp .eql (.var 72) (.var 76)) (.ite (.cmp .eql (.var 73) (.var 77)) (.cmp .eql (.var 74) (.var 78)) (.bool false)) (.bool false))) (.bool true) (.var 79))
         (.ret [(.bool false), (.var 0), (.var 1), (.var 2), (.var 3), (.var 4), (.var 5), (.var 6), (.var 7), (.var 8), (.var 9), (.var 10), (.var 11), (.var 12), (.var 13), (.var 14), (.var 15), (.var 16), (.var 17), (.var 18), (.var 19), (.var 20), (.var 21), (.var 22), (.var 23)])
         (.evs [.call 0 [(.var 6), (.var 7), (.var 8), (.var 15), (.var 16), (.var 17), (.var 79)] none 4,
            .call 0 [(.var 3), (.var 4), (.var 5), (.var 18), (.var 19), (.var 20), (.var 83)] none 4]
          (.ite (.ite (.not (.ite (.cmp .eql (.var 80) (.var 84)) (.ite (.cmp .eql (.var 81) (.var 85)) (.cmp .eql (.var 82) (.var 86)) (.bool false)) (.bool false))) (.bool true) (.var 87))
          (.ret [(.bool false), (.var 0), (.var 1), (.var 2), (.var 3), (.var 4), (.var 5), (.var 6), (.var 7), (.var 8), (.var 9), (.var 10), (.var 11), (.var 12), (.var 13), (.var 14), (.var 15), (.var 16), (.var 17), (.var 18), (.var 19), (.var 20), (.var 21), (.var 22), (.var 23)])
          (.ite (.var 87)
           (.ret [(.bool false), (.var 0), (.var 1), (.var 2), (.var 3), (.var 4), (.var 5), (.var 6), (.var 7), (.var 8), (.var 9), (.var 10), (.var 11), (.var 12), (.var 13), (.var 14), (.var 15), (.var 16), (.var 17), (.var 18), (.var 19), (.var 20), (.var 21), (.var 22), (.var 23)])
           (.evs [.call 0 [(.var 6), (.var 7), (.var 8), (.var 21), (.var 22), (.var 23), (.var 87)] none 4,
              .call 0 [(.var 9), (.var 10), (.var 11), (.var 18), (.var 19), (.var 20), (.var 91)] none 4]
            (.ite (.ite (.not (.ite (.cmp .eql (.var 88) (.var 92)) (.ite (.cmp .eql (.var 89) (.var 93)) (.cmp .eql (.var 90) (.var 94)) (.bool false)) (.bool false))) (.bool true) (.var 95))
            (.ret [(.bool false), (.var 0), (.var 1), (.var 2), (.var 3), (.var 4), (.var 5), (.var 6), (.var 7), (.var 8), (.var 9), (.var 10), (.var 11), (.var 12), (.var 13), (.var 14), (.var 15), (.var 16), (.var 17), (.var 18), (.var 19), (.var 20), (.var 21), (.var 22), (.var 23)])
            (.evs [.call 0 [(.var 9), (.var 10), (.var 11), (.var 12), (.var 13), (.var 14), (.var 95)] none 4,
               .call 0 [(.var 0), (.var 1), (.var 2), (.var 21), (.var 22), (.var 23), (.var 99)] none 4]
             (.ite (.ite (.not (.ite (.cmp .eql (.var 96) (.var 100)) (.ite (.cmp .eql (.var 97) (.var 101)) (.cmp .eql (.var 98) (.var 102)) (.bool false)) (.bool false))) (.bool true) (.var 103))
             (.ret [(.bool false), (.var 0), (.var 1), (.var 2), (.var 3), (.var 4), (.var 5), (.var 6), (.var 7), (.var 8), (.var 9), (.var 10), (.var 11), (.var 12), (.var 13), (.var 14), (.var 15), (.var 16), (.var 17), (.var 18), (.var 19), (.var 20), (.var 21), (.var 22), (.var 23)])
             (.evs [.call 0 [(.var 9), (.var 10), (.var 11), (.var 15), (.var 16), (.var 17), (.var 103)] none 4,
                .call 0 [(.var 3), (.var 4), (.var 5), (.var 21), (.var 22), (.var 23), (.var 107)] none 4]
              (.ite (.ite (.not (.ite (.cmp .eql (.var 104) (.var 108)) (.ite (.cmp .eql (.var 105) (.var 109)) (.cmp .eql (.var 106) (.var 110)) (.bool false)) (.bool false))) (.bool true) (.var 111))
              (.ret [(.bool false), (.var 0), (.var 1), (.var 2), (.var 3), (.var 4), (.var 5), (.var 6), (.var 7), (.var 8), (.var 9), (.var 10), (.var 11), (.var 12), (.var 13), (.var 14), (.var 15), (.var 16), (.var 17), (.var 18), (.var 19), (.var 20), (.var 21), (.var 22), (.var 23)])
              (.evs [.call 0 [(.var 9), (.var 10), (.var 11), (.var 18), (.var 19), (.var 20), (.var 111)] none 4,
                 .call 0 [(.var 6), (.var 7), (.var 8), (.var 21), (.var 22), (.var 23), (.var 115)] none 4]
               (.ite (.ite (.not (.ite (.cmp .eql (.var 112) (.var 116)) (.ite (.cmp .eql (.var 113) (.var 117)) (.cmp .eql (.var 114) (.var 118)) (.bool false)) (.bool false))) (.bool true) (.var 119))
               (.ret [(.bool false), (.var 0), (.var 1), (.var 2), (.var 3), (.var 4), (.var 5), (.var 6), (.var 7), (.var 8), (.var 9), (.var 10), (.var 11), (.var 12), (.var 13), (.var 14), (.var 15), (.var 16), (.var 17), (.var 18), (.var 19), (.var 20), (.var 21), (.var 22), (.var 23)])
               (.ite (.var 119)
                (.ret [(.bool false), (.var 0), (.var 1), (.var 2), (.var 3), (.var 4), (.var 5), (.var 6), (.var 7), (.var 8), (.var 9), (.var 10), (.var 11), (.var 12), (.var 13), (.var 14), (.var 15), (.var 16), (.var 17), (.var 18), (.var 19), (.var 20), (.var 21), (.var 22), (.var 23)])
                (.ret [(.bool true), (.var 0), (.var 1), (.var 2), (.var 3), (.var 4), (.var 5), (.var 6), (.var 7), (.var 8), (.var 9), (.var 10), (.var 11), (.var 12), (.var 13), (.var 14), (.var 15), (.var 16), (.var 17), (.var 18), (.var 19), (.var 20), (.var 21), (.var 22), (.var 23)]))))))))))))))))))))))))))))
def Fs_crossed : List Fun1 := [G_times]
def F_crossed : Fun1 := ofTree Fs_crossed tr_crossed
def G_crossed : Fun1 := ⟨fun _ => True, fun ins => .bool (crossB (fun k => q3 ins (3 * k)) (fun k => q3 ins (12 + 3 * k))) :: copyV ins 0 24⟩
theorem out_crossed : (fun (g : Nat → Int) => F_crossed.out (ivs g 0 24)) = fun g => crossN (fun k => q3 (ivs g 0 24) (3 * k)) (fun k => q3 (ivs g 0 24) (12 + 3 * k)) (copyV (ivs g 0 24) 0 24) pairs15 false := by kernel_rfl
theorem as_crossed (ins : List Value) (ht : TypedL (intTs 24 ++ []) ins) (_ : G_crossed.pre ins) : F_crossed.pre ins ∧ F_crossed.out ins = G_crossed.out ins := by
  obtain ⟨g, r, rfl, h1, _⟩ := ints_lit 24 0 ht
  obtain rfl := ints0 h1
  rw [List.append_nil]
  refine ⟨okT_free (by intro F hF ins; simp only [Fs_crossed, List.mem_singleton] at hF; rw [hF]; trivial) _ _ (by kernel_rfl), (congrFun out_crossed g).trans ?_⟩
  rw [crossN_eq, cross15]
  rfl

def tr_iMatAlike : Tr :=
  (.evs [.call 0 [(.var 0), (.var 1), (.var 2), (.var 3), (.var 4), (.var 5), (.var 6), (.var 7), (.var 8), (.var 9), (.var 10), (.var 11)] none 1,
    .call 0 [(.var 12), (.var 13), (.var 14), (.var 15), (.var 16), (.var 17), (.var 18), (.var 19), (.var 20), (.var 21), (.var 22), (.var 23)] (some (.var 24)) 1,
    .call 1 [(.var 0), (.var 1), (.var 2), (.var 3), (.var 4), (.var 5), (.var 6), (.var 7), (.var 8), (.var 9), (.var 10), (.var 11), (.var 12), (.var 13), (.var 14), (.var 15), (.var 16), (.var 17), (.var 18), (.var 19), (.var 20), (.var 21), (.var 22), (.var 23)] (some (.ite (.var 24) (.var 25) (.bool false))) 25]
  (.ret [(.ite (.ite (.ite (.var 24) (.var 25) (.bool false)) (.var 26) (.bool false)) (.eqb (.ite (.cmp .eql (.ite (.ite (.var 24) (.var 25) (.bool false)) (.var 27) (.var 0)) (.int .i64 0)) (.ite (.cmp .eql (.ite (.ite (.var 24) (.var 25) (.bool false)) (.var 28) (.var 1)) (.int .i64 0)) (.ite (.cmp .eql (.ite (.ite (.var 24) (.var 25) (.bool false)) (.var 29) (.var 2)) (.int .i64 1)) (.ite (.cmp .eql (.ite (.ite (.var 24) (.var 25) (.bool false)) (.var 30) (.var 3)) (.int .i64 0)) (.ite (.cmp .eql (.ite (.ite (.var 24) (.var 25) (.bool false)) (.var 31) (.var 4)) (.int .i64 0)) (.ite (.cmp .eql (.ite (.ite (.var 24) (.var 25) (.bool false)) (.var 32) (.var 5)) (.int .i64 1)) (.ite (.cmp .eql (.ite (.ite (.var 24) (.var 25) (.bool false)) (.var 33) (.var 6)) (.int .i64 0)) (.ite (.cmp .eql (.ite (.ite (.var 24) (.var 25) (.bool false)) (.var 34) (.var 7)) (.int .i64 0)) (.ite (.cmp .eql (.ite (.ite (.var 24) (.var 25) (.bool false)) (.var 35) (.var 8)) (.int .i64 1)) (.ite (.cmp .eql (.ite (.ite (.var 24) (.var 25) (.bool false)) (.var 36) (.var 9)) (.int .i64 0)) (.ite (.cmp .eql (.ite (.ite (.var 24) (.var 25) (.bool false)) (.var 37) (.var 10)) (.int .i64 0)) (.cmp .eql (.ite (.ite (.var 24) (.var 25) (.bool false)) (.var 38) (.var 11)) (.int .i64 1)) (.bool false)) (.bool false)) (.bool false)) (.bool false)) (.bool false)) (.bool false)) (.bool false)) (.bool false)) (.bool false)) (.bool false)) (.bool false)) (.ite (.cmp .eql (.ite (.ite (.var 24) (.var 25) (.bool false)) (.var 39) (.var 12)) (.int .i64 0)) (.ite (.cmp .eql (.ite (.ite (.var 24) (.var 25) (.bool false)) (.var 40) (.var 13)) (.int .i64 0)) (.ite (.cmp .eql (.ite (.ite (.var 24) (.var 25) (.bool false)) (.var 41) (.var 14)) (.int .i64 1)) (.ite (.cmp .eql (.ite (.ite (.var 24) (.var 25) (.bool false)) (.var 42) (.var 15)) (.int .i64 0)) (.ite (.cmp .eql (.ite (.ite (.var 24) (.var 25) (.bool false)) (.var 43) (.var 16)) (.int .i64 0)) (.ite (.cmp .eql (.ite (.ite (.var 24) (.var 25) (.bool false)) (.var 44) (.var 17)) (.int .i64 1)) (.ite (.cmp .eql (.ite (.ite (.var 24) (.var 25) (.bool false)) (.var 45) (.var 18)) (.int .i64 0)) (.ite (.cmp .eql (.ite (.ite (.var 24) (.var 25) (.bool false)) (.var 46) (.var 19)) (.int .i64 0)) (.ite (.cmp .eql (.ite (.ite (.var 24) (.var 25) (.bool false)) (.var 47) (.var 20)) (.int .i64 1)) (.ite (.cmp .eql (.ite (.ite (.var 24) (.var 25) (.bool false)) (.var 48) (.var 21)) (.int .i64 0)) (.ite (.cmp .eql (.ite (.ite (.var 24) (.var 25) (.bool false)) (.var 49) (.var 22)) (.int .i64 0)) (.cmp .eql (.ite (.ite (.var 24) (.var 25) (.bool false)) (.var 50) (.var 23)) (.int .i64 1)) (.bool false)) (.bool false)) (.bool false)) (.bool false)) (.bool false)) (.bool false)) (.bool false)) (.bool false)) (.bool false)) (.bool false)) (.bool false))) (.bool false))]))
def Fs_iMatAlike : List Fun1 := [G_iMatValid, G_crossed]
def F_iMatAlike : Fun1 := ofTree Fs_iMatAlike tr_iMatAlike
def elN (u v w : Bool) (f : Nat → Int) (j : Nat) : Int := toI (if toB (if toB (.bool u) = true then (if u = true then Value.bool v else undef) else .bool false) = true then (if w = true then Value.int .i64 (f j) else undef) else .int .i64 (f j))
def alV (u v C : Bool) (f : Nat → Int) : Value :=
  if toB (if toB (if toB (.bool u) = true then (if u = true then Value.bool v else undef) else .bool false) = true then (if andG u v = true then Value.bool C else undef) else .bool false) = true then
    .bool (toB (eqNest (elN u v (andG u v) f) consts12 0) == toB (eqNest (elN u v (andG u v) fun j => f (12 + j)) consts12 0)) else .bool false
def G_iMatAlike : Fun1 := ⟨fun _ => True, fun ins => [.bool (alikeB (fun k => q3 ins (3 * k)) (fun k => q3 ins (12 + 3 * k)))]⟩
theorem out_iMatAlike : (fun (g : Nat → Int) => evalT' Fs_iMatAlike tr_iMatAlike (ivs g 0 24)) = fun g => [alV (matQ (fun k => q3 (ivs g 0 24) (3 * k))) (matQ (fun k => q3 (ivs g 0 24) (12 + 3 * k))) (crossB (fun k => q3 (ivs g 0 24) (3 * k)) (fun k => q3 (ivs g 0 24) (12 + 3 * k))) g] := by kernel_rfl
theorem as_iMatAlike (ins : List Value) (ht : TypedL (intTs 24 ++ []) ins) (_ : G_iMatAlike.pre ins) : F_iMatAlike.pre ins ∧ F_iMatAlike.out ins = G_iMatAlike.out ins := by
  obtain ⟨g, r, rfl, h1, _⟩ := ints_lit 24 0 ht
  obtain rfl := ints0 h1
  rw [List.append_nil]
  have hL : Lens Fs_iMatAlike [1, 25] := Lens.cons (fun _ => rfl) (Lens.cons (fun _ => rfl) Lens.nil)
  refine ⟨okT_free (by intro F hF ins; simp only [Fs_iMatAlike, List.mem_cons, List.not_mem_nil, or_false] at hF; rcases hF with rfl | rfl <;> trivial) _ _ (by kernel_rfl), (evalT_sel hL _ _ (by kernel_rfl)).trans ((congrFun out_iMatAlike g).trans ?_)⟩
  have e : G_iMatAlike.out (ivs g 0 24) = [.bool (alikeB (fun k => q3 (ivs g 0 24) (3 * k)) (fun k => q3 (ivs g 0 24) (12 + 3 * k)))] := rfl
  rw [e]
  unfold alV alikeB
  cases hu : matQ (fun k => q3 (ivs g 0 24) (3 * k)) with
  | false => rfl
  | true =>
    cases hv : matQ (fun k => q3 (ivs g 0 24) (12 + 3 * k)) with
    | false => rfl
    | true =>
      have e1 : elN true true (andG true true) g = g := funext fun j => rfl
      have e2 : (elN true true (andG true true) fun j => g (12 + j)) = fun j => g (12 + j) := funext fun j => rfl
      rw [e1, e2]
      have d1 : toB (eqNest g consts12 0) = darkM (fun k => q3 (ivs g 0 24) (3 * k)) := none_dark (f := g) hu
      have d2 : toB (eqNest (fun j => g (12 + j)) consts12 0) = darkM (fun k => q3 (ivs g 0 24) (12 + 3 * k)) := none_dark (f := fun j => g (12 + j)) hv
      rw [d1, d2]
      cases crossB (fun k => q3 (ivs g 0 24) (3 * k)) (fun k => q3 (ivs g 0 24) (12 + 3 * k)) <;> simp [andG]

def tr_l5Dark : Tr :=
  (.ite (.ite (.cmp .neq (.var 0) (.int .i64 0)) (.bool true) (.cmp .neq (.var 1) (.int .i64 0)))
  (.ret [(.bool false)])
  (.ite (.ite (.cmp .neq (.var 3) (.int .i64 0)) (.bool true) (.cmp .neq (.var 4) (.int .i64 0)))
   (.ret [(.bool false)])
   (.ite (.ite (.cmp .neq (.var 6) (.int .i64 0)) (.bool true) (.cmp .neq (.var 7) (.int .i64 0)))
    (.ret [(.bool false)])
    (.ite (.ite (.cmp .neq (.var 9) (.int .i64 0)) (.bool true) (.cmp .neq (.var 10) (.int .i64 0)))
     (.ret [(.bool false)])
     (.ret [(.bool true)])))))
def Fs_l5Dark : List Fun1 := []
def F_l5Dark : Fun1 := ofTree Fs_l5Dark tr_l5Dark
def G_l5Dark : Fun1 := ⟨fun _ => True, fun ins => [.bool (darkM fun k => q3 ins (3 * k))]⟩
theorem out_l5Dark : (fun (g : Nat → Int) => F_l5Dark.out (ivs g 0 12)) = fun g => nestC (fun k => if toB (.bool ((q3 (ivs g 0 12) (3 * k)).1 != 0)) = true then Value.bool true else .bool ((q3 (ivs g 0 12) (3 * k)).2.1 != 0)) 0 4 := by kernel_rfl
theorem as_l5Dark (ins : List Value) (ht : TypedL (intTs 12 ++ []) ins) (_ : G_l5Dark.pre ins) : F_l5Dark.pre ins ∧ F_l5Dark.out ins = G_l5Dark.out ins := by
  obtain ⟨g, r, rfl, h1, _⟩ := ints_lit 12 0 ht
  obtain rfl := ints0 h1
  rw [List.append_nil]
  refine ⟨okT_free (fun F hF => by cases hF) _ _ (by kernel_rfl), (congrFun out_l5Dark g).trans ?_⟩
  refine nestC_eq (p := fun k => darkQ (q3 (ivs g 0 12) (3 * k))) (fun k => ?_) 4 0
  simp only [darkQ, bne]
  cases (q3 (ivs g 0 12) (3 * k)).1 == 0 <;> cases (q3 (ivs g 0 12) (3 * k)).2.1 == 0 <;> rfl

def tr_sMatAlike : Tr :=
  (.evs [.call 0 [(.var 0), (.var 1), (.var 2), (.var 3), (.var 4), (.var 5), (.var 6), (.var 7), (.var 8), (.var 9), (.var 10), (.var 11)] none 1,
    .call 0 [(.var 12), (.var 13), (.var 14), (.var 15), (.var 16), (.var 17), (.var 18), (.var 19), (.var 20), (.var 21), (.var 22), (.var 23)] (some (.not (.not (.var 24)))) 1,
    .call 1 [(.var 0), (.var 1), (.var 2), (.var 3), (.var 4), (.var 5), (.var 6), (.var 7), (.var 8), (.var 9), (.var 10), (.var 11)] (some (.not (.ite (.not (.var 24)) (.bool true) (.not (.var 25))))) 1,
    .call 1 [(.var 12), (.var 13), (.var 14), (.var 15), (.var 16), (.var 17), (.var 18), (.var 19), (.var 20), (.var 21), (.var 22), (.var 23)] (some (.not (.ite (.not (.var 24)) (.bool true) (.not (.var 25))))) 1]
  (.ite (.ite (.ite (.not (.var 24)) (.bool true) (.not (.var 25))) (.bool true) (.not (.eqb (.var 26) (.var 27))))
  (.ret [(.bool false)])
  (.evs [.call 2 [(.var 3), (.var 4), (.var 5), (.var 12), (.var 13), (.var 14)] none 4]
   (.evs [.call 2 [(.var 0), (.var 1), (.var 2), (.var 15), (.var 16), (.var 17)] none 4]
   (.ite (.ite (.ite (.not (.var 31)) (.bool true) (.not (.var 35))) (.bool true) (.not (.ite (.cmp .eql (.var 28) (.var 32)) (.ite (.cmp .eql (.var 29) (.var 33)) (.cmp .eql (.var 30) (.var 34)) (.bool false)) (.bool false))))
   (.ret [(.bool false)])
   (.evs [.call 2 [(.var 6), (.var 7), (.var 8), (.var 12), (.var 13), (.var 14)] none 4]
    (.evs [.call 2 [(.var 0), (.var 1), (.var 2), (.var 18), (.var 19), (.var 20)] none 4]
    (.ite (.ite (.ite (.not (.var 39)) (.bool true) (.not (.var 43))) (.bool true) (.not (.ite (.cmp .eql (.var 36) (.var 40)) (.ite (.cmp .eql (.var 37) (.var 41)) (.cmp .eql (.var 38) (.var 42)) (.bool false)) (.bool false))))
    (.ret [(.bool false)])
    (.evs [.call 2 [(.var 6), (.var 7), (.var 8), (.var 15), (.var 16), (.var 17)] none 4]
     (.evs [.call 2 [(.var 3), (.var 4), (.var 5), (.var 18), (.var 19), (.var 20)] none 4]
     (.ite (.ite (.ite (.not (.var 47)) (.bool true) (.not (.var 51))) (.bool true) (.not (.ite (.cmp .eql (.var 44) (.var 48)) (.ite (.cmp .eql (.var 45) (.var 49)) (.cmp .eql (.var 46) (.var 50)) (.bool false)) (.bool false))))
     (.ret [(.bool false)])
     (.evs [.call 2 [(.var 9), (.var 10), (.var 11), (.var 12), (.var 13), (.var 14)] none 4]
      (.evs [.call 2 [(.var 0), (.var 1), (.var 2), (.var 21), (.var 22), (.var 23)] none 4]
      (.ite (.ite (.ite (.not (.var 55)) (.bool true) (.not (.var 59))) (.bool true) (.not (.ite (.cmp .eql (.var 52) (.var 56)) (.ite (.cmp .eql (.var 53) (.var 57)) (.cmp .eql (.var 54) (.var 58)) (.bool false)) (.bool false))))
      (.ret [(.bool false)])
      (.evs [.call 2 [(.var 9), (.var 10), (.var 11), (.var 15), (.var 16), (.var 17)] none 4]
       (.evs [.call 2 [(.var 3), (.var 4), (.var 5), (.var 21), (.var 22), (.var 23)] none 4]
       (.ite (.ite (.ite (.not (.var 63)) (.bool true) (.not (.var 67))) (.bool true) (.not (.ite (.cmp .eql (.var 60) (.var 64)) (.ite (.cmp .eql (.var 61) (.var 65)) (.cmp .eql (.var 62) (.var 66)) (.bool false)) (.bool false))))
       (.ret [(.bool false)])
       (.evs [.call 2 [(.var 9), (.var 10), (.var 11), (.var 18), (.var 19), (.var 20)] none 4]
        (.evs [.call 2 [(.var 6), (.var 7), (.var 8), (.var 21), (.var 22), (.var 23)] none 4]
        (.ite (.ite (.ite (.not (.var 71)) (.bool true) (.not (.var 75))) (.bool true) (.not (.ite (.cmp .eql (.var 68) (.var 72)) (.ite (.cmp .eql (.var 69) (.var 73)) (.cmp .eql (.var 70) (.var 74)) (.bool false)) (.bool false))))
        (.ret [(.bool false)])
        (.ret [(.bool true)])))))))))))))))))))))
def Fs_sMatAlike : List Fun1 := [G_sMatValid, G_l5Dark, G_sFracTimes]
def F_sMatAlike : Fun1 := ofTree Fs_sMatAlike tr_sMatAlike
def G_sMatAlike : Fun1 := ⟨fun _ => True, fun ins => [.bool (alikeB (fun k => q3 ins (3 * k)) (fun k => q3 ins (12 + 3 * k)))]⟩
def alS (u v d e : Bool) (rest : List Value) : List Value :=
  if toB (if orG (!u) v = true then Value.bool true else .bool (!(toB (if (!orG (!u) v) = true then Value.bool d else undef) == toB (if (!orG (!u) v) = true then Value.bool e else undef)))) = true then [.bool false] else rest
theorem out_sMatAlike : (fun (g : Nat → Int) => evalT' Fs_sMatAlike tr_sMatAlike (ivs g 0 24)) = fun g => alS (matQ (fun k => q3 (ivs g 0 24) (3 * k))) (matQ (fun k => q3 (ivs g 0 24) (12 + 3 * k))) (darkM (fun k => q3 (ivs g 0 24) (3 * k))) (darkM (fun k => q3 (ivs g 0 24) (12 + 3 * k))) (alikeN (fun k => q3 (ivs g 0 24) (3 * k)) (fun k => q3 (ivs g 0 24) (12 + 3 * k)) pairs6) := by kernel_rfl
theorem as_sMatAlike (ins : List Value) (ht : TypedL (intTs 24 ++ []) ins) (_ : G_sMatAlike.pre ins) : F_sMatAlike.pre ins ∧ F_sMatAlike.out ins = G_sMatAlike.out ins := by
  obtain ⟨g, r, rfl, h1, _⟩ := ints_lit 24 0 ht
  obtain rfl := ints0 h1
  rw [List.append_nil]
  have hL : Lens Fs_sMatAlike [1, 1] := Lens.cons (fun _ => rfl) (Lens.cons (fun _ => rfl) Lens.nil)
  refine ⟨okT_free (by intro F hF ins; simp only [Fs_sMatAlike, List.mem_cons, List.not_mem_nil, or_false] at hF; rcases hF with rfl | rfl | rfl <;> trivial) _ _ (by kernel_rfl), (evalT_sel hL _ _ (by kernel_rfl)).trans ((congrFun out_sMatAlike g).trans ?_)⟩
  have e : G_sMatAlike.out (ivs g 0 24) = [.bool (alikeB (fun k => q3 (ivs g 0 24) (3 * k)) (fun k => q3 (ivs g 0 24) (12 + 3 * k)))] := rfl
  have e2 : (pairs6.all fun x => good (fun k => q3 (ivs g 0 24) (3 * k)) (fun k => q3 (ivs g 0 24) (12 + 3 * k)) x.1 x.2) = crossB (fun k => q3 (ivs g 0 24) (3 * k)) (fun k => q3 (ivs g 0 24) (12 + 3 * k)) := rfl
  rw [e, alikeN_eq, e2]
  unfold alS alikeB
  rw [orG_eq]
  cases matQ (fun k => q3 (ivs g 0 24) (3 * k)) <;> cases matQ (fun k => q3 (ivs g 0 24) (12 + 3 * k)) <;> cases darkM (fun k => q3 (ivs g 0 24) (3 * k)) <;> cases darkM (fun k => q3 (ivs g 0 24) (12 + 3 * k)) <;> cases crossB (fun k => q3 (ivs g 0 24) (3 * k)) (fun k => q3 (ivs g 0 24) (12 + 3 * k)) <;> rfl

def tr_iFilmSame : Tr :=
  (.evs [.call 0 [(.var 0), (.var 2)] none 13]
  (.evs [.call 0 [(.var 1), (.var 3)] none 13]
  (.evs [.call 1 [(.var 4), (.var 5), (.var 6), (.var 7), (.var 8), (.var 9), (.var 10), (.var 11), (.var 12), (.var 13), (.var 14), (.var 15), (.var 17), (.var 18), (.var 19), (.var 20), (.var 21), (.var 22), (.var 23), (.var 24), (.var 25), (.var 26), (.var 27), (.var 28)] (some (.ite (.var 16) (.var 29) (.bool false))) 1]
  (.ret [(.ite (.ite (.var 16) (.var 29) (.bool false)) (.var 30) (.bool false))]))))
def Fs_iFilmSame : List Fun1 := [F_iFilmMat, G_iMatAlike]
def F_iFilmSame : Fun1 := ofTree Fs_iFilmSame tr_iFilmSame
def sameB (R S : List Value) : Bool := (b0 R 12 && b0 S 12) && alikeB (fun k => q3 R (3 * k)) (fun k => q3 S (3 * k))
def sameG (g h : Nat → Int) (s t : Bool) : List Value :=
  [if toB (if toB (.bool s) = true then Value.bool t else .bool false) = true then (if toB (if toB (.bool s) = true then Value.bool t else .bool false) = true then Value.bool (alikeB (fun k => q3 (ivs g 0 12) (3 * k)) (fun k => q3 (ivs h 0 12) (3 * k))) else undef) else .bool false]
theorem alike_congr {a b a' b' : Nat → Q} (h1 : ∀ k, k < 4 → a k = a' k) (h2 : ∀ k, k < 4 → b k = b' k) : alikeB a b = alikeB a' b' := by
  simp only [alikeB, matQ, darkM, crossB, pairs6, good, allB, List.all_cons, List.all_nil, Nat.zero_add, Nat.reduceAdd, h1 0 (by omega), h1 1 (by omega), h1 2 (by omega), h1 3 (by omega), h2 0 (by omega), h2 1 (by omega), h2 2 (by omega), h2 3 (by omega)]
theorem sameG_eq (g h : Nat → Int) (s t : Bool) : sameG g h s t = [.bool (sameB (ivs g 0 12 ++ [.bool s]) (ivs h 0 12 ++ [.bool t]))] := by
  have e : alikeB (fun k => q3 (ivs g 0 12 ++ [Value.bool s]) (3 * k)) (fun k => q3 (ivs h 0 12 ++ [Value.bool t]) (3 * k)) = alikeB (fun k => q3 (ivs g 0 12) (3 * k)) (fun k => q3 (ivs h 0 12) (3 * k)) := by
    refine alike_congr (fun k hk => ?_) (fun k hk => ?_)
    all_goals
      match k, hk with
      | 0, _ => rfl
      | 1, _ => rfl
      | 2, _ => rfl
      | 3, _ => rfl
  have b1 : b0 (ivs g 0 12 ++ [Value.bool s]) 12 = s := rfl
  have b2 : b0 (ivs h 0 12 ++ [Value.bool t]) 12 = t := rfl
  unfold sameG sameB
  rw [e, b1, b2]
  cases s <;> cases t <;> simp
def G_iFilmSame : Fun1 := ⟨fun ins => Fit4 (ins.getD 0 undef) (ins.getD 2 undef) ∧ Fit4 (ins.getD 1 undef) (ins.getD 3 undef), fun ins => [.bool (sameB (filmV (ins.getD 0 undef) (ins.getD 2 undef)) (filmV (ins.getD 1 undef) (ins.getD 3 undef)))]⟩
theorem out_iFilmSame : (fun (g h : Nat → Int) (x y c d : Value) (s t : Bool) => evalT' Fs_iFilmSame (tailT (tailT tr_iFilmSame)) ([x, y, c, d] ++ (ivs g 0 12 ++ [.bool s]) ++ (ivs h 0 12 ++ [.bool t]))) = fun g h x y c d s t => sameG g h s t := by kernel_rfl
theorem as_iFilmSame (ins : List Value) (ht : TypedL [.sl, .sl, .row .i64 4, .row .i64 4] ins) (hp : G_iFilmSame.pre ins) : F_iFilmSame.pre ins ∧ F_iFilmSame.out ins = G_iFilmSame.out ins := by
  obtain ⟨x, y, c, d, rfl, _, _, _, _⟩ := four_of ht
  obtain ⟨hp1, hp2⟩ : Fit4 x c ∧ Fit4 y d := hp
  obtain ⟨g, s, hR⟩ := filmV_lit x c
  obtain ⟨h, t, hS⟩ := filmV_lit y d
  have e1 : F_iFilmMat.out [x, c] = ivs g 0 12 ++ [.bool s] := hR
  have e2 : F_iFilmMat.out [y, d] = ivs h 0 12 ++ [.bool t] := hS
  have hG : G_iFilmSame.out [x, y, c, d] = [.bool (sameB (filmV x c) (filmV y d))] := rfl
  rw [hG, hR, hS]
  have hL : Lens Fs_iFilmSame [13, 1] := Lens.cons (fun _ => film_len _ _) (Lens.cons (fun _ => rfl) Lens.nil)
  refine ⟨⟨⟨hp1, trivial⟩, ?_⟩, ?_⟩
  · show okT Fs_iFilmSame (tailT tr_iFilmSame) ([x, y, c, d] ++ F_iFilmMat.out [x, c])
    rw [e1]
    refine ⟨⟨hp2, trivial⟩, ?_⟩
    exact okT_mask (m := [false, true]) (.no (.yes (fun _ => trivial) .nil)) _ _ (by kernel_rfl)
  · show evalT Fs_iFilmSame (tailT tr_iFilmSame) ([x, y, c, d] ++ F_iFilmMat.out [x, c]) = _
    rw [e1]
    show evalT Fs_iFilmSame (tailT (tailT tr_iFilmSame)) ([x, y, c, d] ++ (ivs g 0 12 ++ [.bool s]) ++ F_iFilmMat.out [y, d]) = _
    rw [e2, evalT_sel hL _ _ (by kernel_rfl)]
    refine (congrFun (congrFun (congrFun (congrFun (congrFun (congrFun (congrFun (congrFun out_iFilmSame g) h) x) y) c) d) s) t).trans ?_
    exact sameG_eq g h s t

def tr_sFilmSame : Tr :=
  (.evs [.call 0 [(.var 0), (.var 2)] none 13]
  (.evs [.call 0 [(.var 1), (.var 3)] none 13]
  (.evs [.call 1 [(.var 4), (.var 5), (.var 6), (.var 7), (.var 8), (.var 9), (.var 10), (.var 11), (.var 12), (.var 13), (.var 14), (.var 15), (.var 17), (.var 18), (.var 19), (.var 20), (.var 21), (.var 22), (.var 23), (.var 24), (.var 25), (.var 26), (.var 27), (.var 28)] (some (.ite (.var 16) (.var 29) (.bool false))) 1]
  (.ret [(.ite (.ite (.var 16) (.var 29) (.bool false)) (.var 30) (.bool false))]))))
def Fs_sFilmSame : List Fun1 := [F_sFilmMat, G_sMatAlike]
def F_sFilmSame : Fun1 := ofTree Fs_sFilmSame tr_sFilmSame
def G_sFilmSame : Fun1 := ⟨fun ins => Fit4 (ins.getD 0 undef) (ins.getD 2 undef) ∧ Fit4 (ins.getD 1 undef) (ins.getD 3 undef), fun ins => [.bool (sameB (filmV (ins.getD 0 undef) (ins.getD 2 undef)) (filmV (ins.getD 1 undef) (ins.getD 3 undef)))]⟩
theorem out_sFilmSame : (fun (g h : Nat → Int) (x y c d : Value) (s t : Bool) => evalT' Fs_sFilmSame (tailT (tailT tr_sFilmSame)) ([x, y, c, d] ++ (ivs g 0 12 ++ [.bool s]) ++ (ivs h 0 12 ++ [.bool t]))) = fun g h x y c d s t => sameG g h s t := by kernel_rfl
theorem as_sFilmSame (ins : List Value) (ht : TypedL [.sl, .sl, .row .i64 4, .row .i64 4] ins) (hp : G_sFilmSame.pre ins) : F_sFilmSame.pre ins ∧ F_sFilmSame.out ins = G_sFilmSame.out ins := by
  obtain ⟨x, y, c, d, rfl, _, _, _, _⟩ := four_of ht
  obtain ⟨hp1, hp2⟩ : Fit4 x c ∧ Fit4 y d := hp
  obtain ⟨g, s, hR⟩ := filmV_lit x c
  obtain ⟨h, t, hS⟩ := filmV_lit y d
  have e1 : F_sFilmMat.out [x, c] = ivs g 0 12 ++ [.bool s] := hR
  have e2 : F_sFilmMat.out [y, d] = ivs h 0 12 ++ [.bool t] := hS
  have hG : G_sFilmSame.out [x, y, c, d] = [.bool (sameB (filmV x c) (filmV y d))] := rfl
  rw [hG, hR, hS]
  have hL : Lens Fs_sFilmSame [13, 1] := Lens.cons (fun _ => film_len _ _) (Lens.cons (fun _ => rfl) Lens.nil)
  refine ⟨⟨⟨hp1, trivial⟩, ?_⟩, ?_⟩
  · show okT Fs_sFilmSame (tailT tr_sFilmSame) ([x, y, c, d] ++ F_sFilmMat.out [x, c])
    rw [e1]
    refine ⟨⟨hp2, trivial⟩, ?_⟩
    exact okT_mask (m := [false, true]) (.no (.yes (fun _ => trivial) .nil)) _ _ (by kernel_rfl)
  · show evalT Fs_sFilmSame (tailT tr_sFilmSame) ([x, y, c, d] ++ F_sFilmMat.out [x, c]) = _
    rw [e1]
    show evalT Fs_sFilmSame (tailT (tailT tr_sFilmSame)) ([x, y, c, d] ++ (ivs g 0 12 ++ [.bool s]) ++ F_sFilmMat.out [y, d]) = _
    rw [e2, evalT_sel hL _ _ (by kernel_rfl)]
    refine (congrFun (congrFun (congrFun (congrFun (congrFun (congrFun (congrFun (congrFun out_sFilmSame g) h) x) y) c) d) s) t).trans ?_
    exact sameG_eq g h s t

def tr_pick : Tr :=
  (.ite (.ite (.cmp .lss (.var 0) (.int .i64 1)) (.bool true) (.cmp .eql (.len (.var 1)) (.int .i64 0)))
  (.ret [(.int .i64 0), (.var 1), (.ar .add .i64 (.var 2) (.int .i64 1))])
  (.ite (.cmp .lss (.ar .sub .i64 (.ar .add .i64 (.var 2) (.int .i64 1)) (.int .i64 1)) (.len (.var 1)))
   (.evs [.need [(.inb (.var 3) (.ar .sub .i64 (.ar .add .i64 (.var 2) (.int .i64 1)) (.int .i64 1)) 1)],
      .need [(.cmp .neq (.var 0) (.int .i64 0))]]
    (.ret [(.ar .rem .i64 (.conv .i64 (.sel (.var 3) (.ar .sub .i64 (.ar .add .i64 (.var 2) (.int .i64 1)) (.int .i64 1)) 1 0)) (.var 0)), (.var 1), (.ar .add .i64 (.var 2) (.int .i64 1))]))
   (.evs [.need [(.cmp .neq (.len (.var 1)) (.int .i64 0)), (.inb (.var 3) (.ar .rem .i64 (.ar .sub .i64 (.ar .add .i64 (.var 2) (.int .i64 1)) (.int .i64 1)) (.len (.var 1))) 1), (.cmp .neq (.len (.var 1)) (.int .i64 0)), (.inb (.var 3) (.ar .rem .i64 (.ar .add .i64 (.ar .mul .i64 (.ar .sub .i64 (.ar .add .i64 (.var 2) (.int .i64 1)) (.int .i64 1)) (.int .i64 7)) (.int .i64 3)) (.len (.var 1))) 1), (.cmp .neq (.len (.var 1)) (.int .i64 0))],
      .need [(.cmp .neq (.len (.var 1)) (.int .i64 0)), (.inb (.var 3) (.ar .rem .i64 (.ar .sub .i64 (.ar .add .i64 (.var 2) (.int .i64 1)) (.int .i64 1)) (.len (.var 1))) 1), (.cmp .neq (.len (.var 1)) (.int .i64 0)), (.inb (.var 3) (.ar .rem .i64 (.ar .add .i64 (.ar .mul .i64 (.ar .sub .i64 (.ar .add .i64 (.var 2) (.int .i64 1)) (.int .i64 1)) (.int .i64 7)) (.int .i64 3)) (.len (.var 1))) 1), (.cmp .neq (.len (.var 1)) (.int .i64 0))]]
    (.evs [.need [(.bool true)]]
    (.evs [.need [(.cmp .neq (.var 0) (.int .i64 0))]]
    (.ret [(.ar .rem .i64 (.ar .xor .i64 (.ar .add .i64 (.ar .add .i64 (.ar .add .i64 (.ar .mul .i64 (.conv .i64 (.sel (.var 3) (.ar .rem .i64 (.ar .sub .i64 (.ar .add .i64 (.var 2) (.int .i64 1)) (.int .i64 1)) (.len (.var 1))) 1 0)) (.int .i64 131)) (.ar .mul .i64 (.conv .i64 (.sel (.var 3) (.ar .rem .i64 (.ar .add .i64 (.ar .mul .i64 (.ar .sub .i64 (.ar .add .i64 (.var 2) (.int .i64 1)) (.int .i64 1)) (.int .i64 7)) (.int .i64 3)) (.len (.var 1))) 1 0)) (.int .i64 1117))) (.ar .mul .i64 (.ar .sub .i64 (.ar .add .i64 (.var 2) (.int .i64 1)) (.int .i64 1)) (.int .i64 29))) (.ar .mul .i64 (.ar .quo .i64 (.ar .sub .i64 (.ar .add .i64 (.var 2) (.int .i64 1)) (.int .i64 1)) (.len (.var 1))) (.int .i64 53))) (.ar .quo .i64 (.ar .add .i64 (.ar .add .i64 (.ar .add .i64 (.ar .mul .i64 (.conv .i64 (.sel (.var 3) (.ar .rem .i64 (.ar .sub .i64 (.ar .add .i64 (.var 2) (.int .i64 1)) (.int .i64 1)) (.len (.var 1))) 1 0)) (.int .i64 131)) (.ar .mul .i64 (.conv .i64 (.sel (.var 3) (.ar .rem .i64 (.ar .add .i64 (.ar .mul .i64 (.ar .sub .i64 (.ar .add .i64 (.var 2) (.int .i64 1)) (.int .i64 1)) (.int .i64 7)) (.int .i64 3)) (.len (.var 1))) 1 0)) (.int .i64 1117))) (.ar .mul .i64 (.ar .sub .i64 (.ar .add .i64 (.var 2) (.int .i64 1)) (.int .i64 1)) (.int .i64 29))) (.ar .mul .i64 (.ar .quo .i64 (.ar .sub .i64 (.ar .add .i64 (.var 2) (.int .i64 1)) (.int .i64 1)) (.len (.var 1))) (.int .i64 53))) (.int .i64 64))) (.var 0)), (.var 1), (.ar .add .i64 (.var 2) (.int .i64 1))]))))))
def Fs_pick : List Fun1 := []
def F_pick : Fun1 := ofTree Fs_pick tr_pick
theorem pick_tree {arr : Array Value} {b : Value} {n p L : Int} (hL : lenV b = L) (hs : L = (arr.size : Int)) (hL2 : L ≤ 9223372036854775807) (hn : I64 n) (hp : 0 ≤ p ∧ p ≤ 1000000000) (hb : ∀ i : Nat, 0 ≤ toI (arr.getD i undef) ∧ toI (arr.getD i undef) ≤ 255) :
    okT [] tr_pick [.int .i64 n, b, .int .i64 p, .agg arr] ∧ ∃ x, evalT [] tr_pick [.int .i64 n, b, .int .i64 p, .agg arr] = [.int .i64 x, b, .int .i64 (p + 1)] ∧ 0 ≤ x ∧ x ≤ max 0 (n - 1) := by
  have w1 : IntKind.i64.wrap (p + 1) = p + 1 := wrap_in (by omega)
  have w2 : IntKind.i64.wrap (p + 1 - 1) = p := by rw [show p + 1 - 1 = p by omega]; exact wrap_in (by omega)
  have wb : ∀ i : Nat, IntKind.i64.wrap (toI (arr.getD i undef)) = toI (arr.getD i undef) := fun i => wrap_in (by have := hb i; omega)
  unfold tr_pick
  simp only [okT, evalT, okE, evalE, needs, evsIn, ev, cmpI, arI, toI_int, List.getD_cons_zero, List.getD_cons_succ, w1, w2, hL, toB_bool, Value.cells, Nat.mul_one, Nat.add_zero, wb]
  by_cases c1 : n < 1
  · simp only [c1, decide_true, if_true, toB_bool]
    exact ⟨trivial, 0, rfl, by omega, by omega⟩
  by_cases c2 : L = 0
  · simp only [c1, c2, decide_false, Bool.false_eq_true, if_false, toB_bool, beq_self_eq_true, if_true]
    exact ⟨trivial, 0, rfl, by omega, by omega⟩
  have c3 : (L == 0) = false := by simp [c2]
  simp only [c1, c3, decide_false, Bool.false_eq_true, if_false, toB_bool]
  have n0 : (n != 0) = true := by simp; omega
  by_cases c4 : p < L
  · simp only [c4, decide_true, if_true]
    have h1 := hb p.toNat
    obtain ⟨r1, r2⟩ := tmod_rng (n := n) h1.1 (by omega)
    refine ⟨⟨⟨⟨by rw [Value.bool.injEq, decide_eq_true_eq]; omega, trivial⟩, ⟨by rw [n0], trivial⟩, trivial⟩, trivial⟩, _, rfl, r1, by omega⟩
  · simp only [c4, decide_false, Bool.false_eq_true, if_false]
    have w3 : IntKind.i64.wrap (p * 7) = p * 7 := wrap_in (by omega)
    have w4 : IntKind.i64.wrap (p * 7 + 3) = p * 7 + 3 := wrap_in (by omega)
    obtain ⟨a1, a2⟩ := tmod_rng (x := p) (n := L) (by omega) (by omega)
    obtain ⟨b1, b2⟩ := tmod_rng (x := p * 7 + 3) (n := L) (by omega) (by omega)
    obtain ⟨d1, d2⟩ := tdiv_range (x := p) (n := L) (by omega) (by omega)
    simp only [w3, w4]
    have y1 := hb (p.tmod L).toNat
    have y2 := hb ((p * 7 + 3).tmod L).toNat
    generalize toI (arr.getD (p.tmod L).toNat undef) = u at y1 ⊢
    generalize toI (arr.getD ((p * 7 + 3).tmod L).toNat undef) = v at y2 ⊢
    generalize p.tdiv L = z at d1 d2 ⊢
    rw [wrap_in (z := u * 131) (by omega), wrap_in (z := v * 1117) (by omega), wrap_in (z := p * 29) (by omega), wrap_in (z := z) (by omega), wrap_in (z := z * 53) (by omega),
      wrap_in (z := u * 131 + v * 1117) (by omega), wrap_in (z := u * 131 + v * 1117 + p * 29) (by omega), wrap_in (z := u * 131 + v * 1117 + p * 29 + z * 53) (by omega)]
    have hx : 0 ≤ u * 131 + v * 1117 + p * 29 + z * 53 ∧ u * 131 + v * 1117 + p * 29 + z * 53 ≤ 4611686018427387903 := by omega
    generalize u * 131 + v * 1117 + p * 29 + z * 53 = X at hx ⊢
    obtain ⟨t1, t2⟩ := tdiv_range (x := X) (n := 64) hx.1 (by omega)
    rw [wrap_in (z := X.tdiv 64) (by omega)]
    have hxr := xor_nonneg hx (y := X.tdiv 64) (by omega)
    obtain ⟨r1, r2⟩ := tmod_rng (n := n) hxr.1 (by omega)
    have L0 : (L != 0) = true := by simp [c2]
    refine ⟨⟨⟨⟨by rw [L0], by rw [Value.bool.injEq, decide_eq_true_eq]; omega, by rw [L0], by rw [Value.bool.injEq, decide_eq_true_eq]; omega, by rw [L0], trivial⟩, ⟨by rw [L0], by rw [Value.bool.injEq, decide_eq_true_eq]; omega, by rw [L0], by rw [Value.bool.injEq, decide_eq_true_eq]; omega, by rw [L0], trivial⟩, trivial⟩, ⟨⟨trivial, trivial⟩, trivial⟩, ⟨⟨by rw [n0], trivial⟩, trivial⟩, trivial⟩, _, rfl, r1, by omega⟩
def G_pick (cb : CodeB) : Fun1 := ⟨fun ins => goodSl cb (ins.getD 1 undef) ∧ (∃ n, ins.getD 0 undef = .int .i64 n ∧ I64 n) ∧ ∃ p, ins.getD 2 undef = .int .i64 p ∧ 0 ≤ p ∧ p ≤ 1000000000, fun ins => F_pick.out [ins.getD 0 undef, ins.getD 1 undef, ins.getD 2 undef, rowU cb (ins.getD 1 undef)]⟩
theorem pick_facts {cb : CodeB} (hk : CodeOk cb) {n p : Int} {b : Value} (hb : goodSl cb b) (hn : I64 n) (hp : 0 ≤ p ∧ p ≤ 1000000000) :
    F_pick.pre [.int .i64 n, b, .int .i64 p, rowU cb b] ∧ ∃ x, F_pick.out [.int .i64 n, b, .int .i64 p, rowU cb b] = [.int .i64 x, b, .int .i64 (p + 1)] ∧ 0 ≤ x ∧ x ≤ max 0 (n - 1) := by
  obtain ⟨a, len, cap, arr, hv, hr, hsz, hlen, harr⟩ := goodSl_row hk hb
  rw [hr]
  exact pick_tree (L := len) (by rw [hv]; rfl) (by omega) (by omega) hn hp (row_byte harr)
theorem ghost_pick {cb : CodeB} (hk : CodeOk cb) (n b p : Value) (ht : TypedL [.int .i64, .sl, .int .i64] [n, b, p]) (h : (G_pick cb).pre [n, b, p]) : goodSl cb b ∧ F_pick.pre [n, b, p, rowU cb b] ∧ F_pick.out [n, b, p, rowU cb b] = (G_pick cb).out [n, b, p] := by
  obtain ⟨h1, ⟨n, hn, hn'⟩, p, hp, hp'⟩ := h
  have hn : _ = Value.int .i64 n := hn
  have hp : _ = Value.int .i64 p := hp
  simp only [List.getD_cons_zero, List.getD_cons_succ] at hn hp h1
  subst hn hp
  exact ⟨h1, (pick_facts hk h1 hn' hp').1, rfl⟩
theorem aok_pick {cb : CodeB} (hk : CodeOk cb) : AOK cb (G_pick cb) aPick := by
  intro I O h ins hi
  match I, ins, hi, h with
  | [.itv lo hi', .good, .itv a b], [n, s, p], ⟨⟨n', hn, n1, n2⟩, hs, ⟨p', hp, p1, p2⟩, _⟩, h =>
    simp only [aPick] at h
    split at h
    · rename_i hc
      cases h
      simp only [Bool.and_eq_true, decide_eq_true_eq] at hc
      subst hn hp
      have hn64 : I64 n' := by unfold I64; omega
      have hpp : 0 ≤ p' ∧ p' ≤ 1000000000 := by omega
      obtain ⟨q1, x, q2, q3, q4⟩ := pick_facts hk hs hn64 hpp
      refine ⟨⟨hs, ⟨n', rfl, hn64⟩, p', rfl, hpp⟩, ?_⟩
      have e : (G_pick cb).out [.int .i64 n', s, .int .i64 p'] = [.int .i64 x, s, .int .i64 (p' + 1)] := q2
      rw [e]
      exact ⟨⟨x, rfl, q3, by omega⟩, hs, ⟨p' + 1, rfl, by omega, by omega⟩, trivial⟩
    · cases h

abbrev F_pickC := G_pick
abbrev A_pickC := aPick
theorem aok_pickC {cb : CodeB} (hk : CodeOk cb) : AOK cb (G_pick cb) aPick := aok_pick hk

abbrev F_openC := G_open
abbrev A_openC := aOpen
theorem aok_openC {cb : CodeB} (_ : CodeOk cb) : AOK cb (G_open cb) aOpen := aok_open

def tr_l91Frac : Tr :=
  (.evs [.call 0 [(.int .i64 40), (.var 0), (.var 1)] none 3]
  (.ite (.cmp .eql (.var 2) (.int .i64 0))
  (.ret [(.int .i64 2), (.int .i64 4), (.int .i64 2), (.var 3), (.var 4)])
  (.ite (.cmp .eql (.var 2) (.int .i64 1))
   (.ret [(.int .i64 1), (.int .i64 0), (.int .i64 0), (.var 3), (.var 4)])
   (.ite (.cmp .eql (.var 2) (.int .i64 2))
    (.ret [(.int .i64 2000000000), (.int .i64 1), (.int .i64 7), (.var 3), (.var 4)])
    (.ite (.cmp .eql (.var 2) (.int .i64 3))
     (.ret [(.int .i64 0), (.int .i64 0), (.int .i64 1), (.var 3), (.var 4)])
     (.evs [.call 0 [(.int .i64 13), (.var 3), (.var 4)] none 3,
        .call 0 [(.int .i64 9), (.var 6), (.var 7)] none 3,
        .call 0 [(.int .i64 2), (.var 9), (.var 10)] none 3,
        .call 0 [(.int .i64 5), (.var 12), (.var 13)] none 3,
        .call 1 [(.ar .sub .i64 (.var 5) (.int .i64 6)), (.ar .mul .i64 (.ar .sub .i64 (.var 8) (.int .i64 4)) (.var 11)), (.ar .add .i64 (.int .i64 1) (.var 14))] none 4]
      (.ret [(.var 17), (.var 18), (.var 19), (.var 15), (.var 16)])))))))
def Fs_l91Frac (cb : CodeB) : List Fun1 := [(F_pickC cb), G_l2Low]
def F_l91Frac (cb : CodeB) : Fun1 := ofTree (Fs_l91Frac cb) tr_l91Frac
def A_l91Frac : AF := absT [A_pickC, A_l2Low] tr_l91Frac
theorem aok_l91Frac {cb : CodeB} (hk : CodeOk cb) : AOK cb (F_l91Frac cb) A_l91Frac := tree_aok (AOKs.cons (aok_pickC hk) (AOKs.cons aok_l2Low AOKs.nil)) tr_l91Frac

def tr_l92Index : Tr :=
  (.evs [.call 0 [(.int .i64 6), (.var 0), (.var 1)] none 3]
  (.ite (.cmp .eql (.var 2) (.int .i64 0))
  (.evs [.call 1 [(.var 3), (.var 4)] none 5]
   (.ret [(.var 5), (.var 6), (.var 7), (.var 8), (.var 9)]))
  (.evs [.call 0 [(.int .i64 5), (.var 3), (.var 4)] none 3,
     .call 0 [(.int .i64 3), (.var 6), (.var 7)] none 3,
     .call 0 [(.int .i64 2), (.var 9), (.var 10)] none 3,
     .call 0 [(.int .i64 2), (.var 12), (.var 13)] none 3,
     .call 2 [(.ar .add .i64 (.int .i64 2) (.var 5)), (.ar .mul .i64 (.ar .sub .i64 (.int .i64 1) (.var 8)) (.var 11)), (.ar .add .i64 (.int .i64 1) (.var 14))] none 4]
   (.ret [(.var 17), (.var 18), (.var 19), (.var 15), (.var 16)]))))
def Fs_l92Index (cb : CodeB) : List Fun1 := [(F_pickC cb), (F_l91Frac cb), G_l2Low]
def F_l92Index (cb : CodeB) : Fun1 := ofTree (Fs_l92Index cb) tr_l92Index
def A_l92Index : AF := absT [A_pickC, A_l91Frac, A_l2Low] tr_l92Index
theorem aok_l92Index {cb : CodeB} (hk : CodeOk cb) : AOK cb (F_l92Index cb) A_l92Index := tree_aok (AOKs.cons (aok_pickC hk) (AOKs.cons (aok_l91Frac hk) (AOKs.cons aok_l2Low AOKs.nil))) tr_l92Index

def tr_l92Film : Tr :=
  (.evs [.app (.val (.agg #[])) 4 (.cells [])]
  (.evs [.call 0 [(.int .i64 4), (.var 0), (.var 1)] none 3]
  (.lp 0 [(.var 2), (.int .i64 0), (.var 5), (.var 6), (.var 3)] [.sl, .int .i64, .sl, .int .i64, .row .i64 4]
  (.ite (.cmp .lss (.var 8) (.var 4))
   (.evs [.call 1 [(.var 9), (.var 10)] none 5,
      .call 0 [(.int .i64 4), (.var 15), (.var 16)] none 3,
      .app (.var 11) 4 (.cells [(.var 12), (.var 13), (.var 14), (.var 17)])]
    (.next 0 [(.var 20), (.ar .add .i64 (.var 8) (.int .i64 1)), (.var 18), (.var 19), (.var 21)]))
   (.evs [.call 0 [(.int .i64 24), (.var 9), (.var 10)] none 3]
    (.ite (.cmp .eql (.var 12) (.int .i64 0))
    (.evs [.app (.var 11) 4 (.cells [(.int .i64 1), (.int .i64 0), (.int .i64 1), (.int .i64 4)])]
     (.ret [(.var 15), (.var 13), (.var 14), (.var 16)]))
    (.ret [(.var 7), (.var 13), (.var 14), (.var 11)])))))))
def Ss_l92Film (cb : CodeB) : List Spec := [(F_pickC cb).spec, (F_l92Index cb).spec]
def SP_l92Film (cb : CodeB) : Spec := filmSpec cb
theorem idx_chk : ∀ H : Int, (H = 1000 ∨ H = 3000) → ∀ j : Nat, j < 4 → chk5 (A_l92Index [.good, .itv 0 (H + 100 * j + 1)]) (H + 100 * j + 60) = true := by
  rintro H hH j hj
  rcases hH with rfl | rfl <;> rcases (by omega : j = 0 ∨ j = 1 ∨ j = 2 ∨ j = 3) with rfl | rfl | rfl | rfl <;> kernel_rfl
theorem pick_use {cb : CodeB} (hk : CodeOk cb) {m : Int} (hm : 1 ≤ m) (hm2 : m ≤ 1000) {b : Value} {z : Int} (hb : goodSl cb b) (h0 : 0 ≤ z) (hz : z ≤ 1000000000) {K : List Value → Prop} (hK : ∀ x, 0 ≤ x → x ≤ m - 1 → K [.int .i64 x, b, .int .i64 (z + 1)]) : (G_pick cb).spec [.int .i64 m, b, .int .i64 z] K := by
  have hn : I64 m := by unfold I64; omega
  obtain ⟨_, x, q2, q3, q4⟩ := pick_facts hk hb hn ⟨h0, hz⟩
  refine ⟨⟨hb, ⟨m, rfl, hn⟩, z, rfl, h0, hz⟩, ?_⟩
  have e : (G_pick cb).out [.int .i64 m, b, .int .i64 z] = [.int .i64 x, b, .int .i64 (z + 1)] := q2
  rw [e]
  exact hK x q3 (by omega)
theorem row_snoc {c : Value} {vs : List Value} (h : HasTy (.row .i64 4) c) (hl : vs.length = 4) (hv : ∀ v ∈ vs, ∃ z, v = .int .i64 z ∧ IntKind.i64.wrap z = z) : HasTy (.row .i64 4) (.agg (c.cells ++ vs.toArray)) := by
  obtain ⟨arr, rfl, h1, h2⟩ := h
  refine ⟨_, rfl, ?_, fun x hx => ?_⟩
  · simp only [Value.cells, Array.size_append, List.size_toArray, hl]; omega
  · simp only [Value.cells, Array.mem_append, List.mem_toArray] at hx
    exact hx.elim (h2 x) (hv x)
set_option maxHeartbeats 1000000 in
theorem sat_l92Film (P : Program) (cb : CodeB) (hk : CodeOk cb) (ins : List Value) (K : List Value → Prop) (ht : TypedL [.sl, .int .i64] ins) (h : SP_l92Film cb ins K) : sat P (Ss_l92Film cb) tr_l92Film ins [] K := by
  obtain ⟨b, z, B, rfl, hb, h0, hz, hB, hK⟩ := h
  have hBb : 1000 ≤ B ∧ B ≤ 3000 := by omega
  refine evs_step (app_empty (by omega) fun a2 cap2 => evs_nil (evs_step (call_step rfl (pick_use hk (m := 4) (by omega) (by omega) hb h0 (by omega) fun nn n0 n1 => evs_nil ?_))))
  refine ⟨fun vs => ∃ (j : Nat) (a : Option Addr) (cap : Nat) (b' : Value) (z' : Int) (arr : Array Value), (j : Int) ≤ nn ∧ vs = [.slice a j cap, .int .i64 j, b', .int .i64 z', .agg arr] ∧ arr.size = j * 4 ∧ goodSl cb b' ∧ 0 ≤ z' ∧ z' ≤ B + 100 * j + 1, fun vs => (nn - toI (vs.getD 1 undef)).toNat, ?_, ?_⟩
  · exact ⟨0, a2, cap2, b, z + 1, #[], by omega, rfl, rfl, hb, by omega, by omega⟩
  · rintro vs hty ⟨j, a, cap, b', z', arr, hj, rfl, hs, hb', z0, z1⟩
    have hrow : HasTy (.row .i64 4) (.agg arr) := hty.2 4 _ rfl
    refine ⟨fun h => ?_, fun h => ?_⟩
    · have hlt : (j : Int) < nn := by
        have : decide ((j : Int) < nn) = true := Value.bool.inj h
        simpa using this
      have hj3 : j < 3 := by omega
      refine evs_step (call_step rfl (chk5_use (aok_l92Index hk) (idx_chk B hB j (by omega)) hb' z0 z1 fun u v w b1 q1 hb1 p0 p1 => ?_))
      refine call_step rfl (pick_use hk (m := 4) (by omega) (by omega) hb1 p0 (by omega) fun qt _ _ => ?_)
      refine app_step (xs := arr.toList) (ys := [u, v, w, .int .i64 qt]) (by simp [ev]) rfl (by simp [hs]; omega) fun a3 len3 cap3 _ hl => ?_
      have hl3 : len3 = j + 1 := by
        simp [hs] at hl
        omega
      subst hl3
      have hw : IntKind.i64.wrap ((j : Int) + 1) = ((j + 1 : Nat) : Int) := by rw [wrap_in (by omega)]; omega
      refine evs_nil ⟨⟨j + 1, a3, cap3, b1, q1 + 1, (arr.toList ++ [u, v, w, .int .i64 qt]).toArray, by omega, ?_, by simp [hs]; omega, hb1, by omega, by omega⟩, ?_⟩
      · show [Value.slice a3 (j + 1) cap3, .int .i64 (IntKind.i64.wrap ((j : Int) + 1)), b1, .int .i64 (q1 + 1), .agg (arr.toList ++ [u, v, w, .int .i64 qt]).toArray] = _
        rw [hw]
      · show (nn - toI (.int .i64 (IntKind.i64.wrap ((j : Int) + 1)))).toNat < (nn - toI (.int .i64 (j : Int))).toNat
        rw [hw]
        simp only [toI_int]
        omega
    · have hge : (j : Int) = nn := by
        have : decide ((j : Int) < nn) = false := Value.bool.inj h
        have : ¬ (j : Int) < nn := by simpa using this
        omega
      refine evs_step (call_step rfl (pick_use hk (m := 24) (by omega) (by omega) hb' z0 (by omega) fun x x0 x1 => evs_nil ?_))
      refine ⟨fun h2 => ?_, fun h2 => ?_⟩
      · refine app_step (xs := arr.toList) (ys := [.int .i64 1, .int .i64 0, .int .i64 1, .int .i64 4]) (by simp [ev]) rfl (by simp [hs]; omega) fun a3 len3 cap3 _ hl => ?_
        have hl3 : len3 = j + 1 := by
          simp [hs] at hl
          omega
        subst hl3
        have hr2 := row_snoc (vs := [.int .i64 1, .int .i64 0, .int .i64 1, .int .i64 4]) hrow rfl (fun v hv => by
          simp only [List.mem_cons, List.not_mem_nil, or_false] at hv
          rcases hv with rfl | rfl | rfl | rfl
          · exact ⟨1, rfl, by decide⟩
          · exact ⟨0, rfl, by decide⟩
          · exact ⟨1, rfl, by decide⟩
          · exact ⟨4, rfl, by decide⟩)
        have er : (Value.agg (arr.toList ++ [Value.int .i64 1, .int .i64 0, .int .i64 1, .int .i64 4]).toArray) = .agg ((Value.agg arr).cells ++ [Value.int .i64 1, .int .i64 0, .int .i64 1, .int .i64 4].toArray) := by simp [Value.cells]
        refine hK a3 (j + 1) cap3 (.agg (arr.toList ++ [Value.int .i64 1, .int .i64 0, .int .i64 1, .int .i64 4]).toArray) b' (z' + 1) (by omega) (by rw [er]; exact hr2) ?_ hb' (by omega) (by omega)
        simp [Value.cells, hs]; omega
      · exact hK a j cap _ b' (z' + 1) (by omega) hrow hs hb' (by omega) (by omega)

def tr_DrawFilmSame : Tr :=
  (.evs [.call 0 [(.var 0)] none 2]
  (.evs [.call 1 [(.var 1), (.var 2)] none 4]
  (.evs [.call 2 [(.int .i64 2), (.var 4), (.var 5)] none 3]
  (.ite (.ite (.cmp .eql (.var 7) (.int .i64 0)) (.cmp .lss (.len (.var 3)) (.int .i64 7)) (.bool false))
  (.evs [.app (.val (.agg #[])) 4 (.cells []),
     .app (.var 11) 4 (.row (.var 6)),
     .app (.var 13) 4 (.cells [(.int .i64 3), (.int .i64 0), (.int .i64 2), (.int .i64 2)])]
   (.ret [(.var 3), (.var 14), (.var 6), (.var 15)]))
  (.evs [.call 1 [(.var 8), (.var 9)] none 4]
   (.ret [(.var 3), (.var 10), (.var 6), (.var 13)]))))))
def Ss_DrawFilmSame (cb : CodeB) : List Spec := [(F_openC cb).spec, (SP_l92Film cb), (F_pickC cb).spec]
-- part film
/-- The k-th fraction of a list. -/
def accQ (acc : List Value) (k : Nat) : Q := q3 acc (3 * k)
def layX (c : Value) (k : Nat) : Q := (rq c k 0, rq c k 1, rq c k 2)
theorem acc_tri (g : Nat → Int) : ∀ i, i < 4 → accQ (ivs g 0 12) i = tri g (3 * i) := get4 rfl rfl rfl rfl
theorem take_ntt (ok : Bool) (d : Nat → Option Q) : (nttW 4 ok d).take 12 = ivs (nttH 4 ok d) 0 12 := rfl
theorem ntt_ok (ok : Bool) (d : Nat → Option Q) : b0 (nttW 4 ok d) 12 = nttT 4 ok d := rfl
theorem acc_ntt {ok : Bool} {d : Nat → Option Q} (h : nttT 4 ok d = true) {i : Nat} (hi : i < 4) {v : Q} (hv : d i = some v) : accQ ((nttW 4 ok d).take 12) i = v := by
  rw [take_ntt, acc_tri _ i hi]
  exact ntt_tri h hv
theorem mat_get {f : Nat → Q} (h : matQ f = true) : ∀ i, i < 4 → validQ (f i) = true := fun i hi => allB_get h i (Nat.zero_le _) (by omega)
theorem mat_intro {f : Nat → Q} (h : ∀ i, i < 4 → validQ (f i) = true) : matQ f = true := by
  unfold matQ
  simp only [allB, Nat.zero_add, Nat.reduceAdd, h 0 (by omega), h 1 (by omega), h 2 (by omega), h 3 (by omega), Bool.and_self]
theorem both_get (acc : List Value) (h : Nat → Int) (l : List Value) (ha : acc = ivs h 0 12) (g : Nat → Int) (hl : l = ivs g 0 12) : (∀ k, k < 4 → q3 (acc ++ l) (3 * k) = accQ acc k) ∧ ∀ k, k < 4 → q3 (acc ++ l) (12 + 3 * k) = accQ l k := by
  subst ha hl
  exact ⟨get4 rfl rfl rfl rfl, get4 rfl rfl rfl rfl⟩
theorem nttT_intro {ok : Bool} {d : Nat → Option Q} (h : ok = true) (hd : ∀ i, i < 4 → ∃ v, d i = some v) : nttT 4 ok d = true := by
  unfold nttT
  obtain ⟨v0, e0⟩ := hd 0 (by omega)
  obtain ⟨v1, e1⟩ := hd 1 (by omega)
  obtain ⟨v2, e2⟩ := hd 2 (by omega)
  obtain ⟨v3, e3⟩ := hd 3 (by omega)
  simp only [h, allB, Nat.zero_add, Nat.reduceAdd, e0, e1, e2, e3, Option.isSome_some, Bool.and_self]
/-- A step of a film, told of fractions. -/
theorem step_some {c : Value} {k : Nat} {acc acc' : List Value} (hl : ∃ h : Nat → Int, acc = ivs h 0 12) (h : filmStep c k acc = some acc') :
    ∃ L : Nat → Q, (∀ i, i < 4 → layD (layX c k) (rq c k 3) i = some (L i)) ∧ (∀ i, i < 4 → validQ (accQ acc i) = true) ∧ ∀ i, i < 4 → mulM (accQ acc) L i = some (accQ acc' i) := by
  obtain ⟨g, hg⟩ := hl
  unfold filmStep at h
  split at h
  · rename_i hc
    rw [Bool.and_eq_true] at hc
    obtain ⟨c1, c2⟩ := hc
    have c1 : nttT 4 true (layD (layX c k) (rq c k 3)) = true := c1
    have hd := (nttT_ok c1).2
    have hL : ∀ i, i < 4 → layD (layX c k) (rq c k 3) i = some (accQ ((layO c k).take 12) i) := fun i hi => by
      obtain ⟨v, hv⟩ := hd i hi
      rw [hv]
      exact congrArg some (acc_ntt c1 hi hv).symm
    obtain ⟨e1, e2⟩ := both_get acc g ((layO c k).take 12) hg _ rfl
    have c2 : nttT 4 (matQ (fun j => q3 (acc ++ (layO c k).take 12) (3 * j)) && matQ (fun j => q3 (acc ++ (layO c k).take 12) (12 + 3 * j))) (mulM (fun j => q3 (acc ++ (layO c k).take 12) (3 * j)) (fun j => q3 (acc ++ (layO c k).take 12) (12 + 3 * j))) = true := c2
    obtain ⟨o1, o2⟩ := nttT_ok c2
    rw [Bool.and_eq_true] at o1
    refine ⟨accQ ((layO c k).take 12), hL, fun i hi => ?_, fun i hi => ?_⟩
    · rw [← e1 i hi]
      exact mat_get o1.1 i hi
    · obtain ⟨v, hv⟩ := o2 i hi
      have hcon := mulM_congr e1 e2 hi
      rw [← hcon, hv]
      cases h
      exact congrArg some (acc_ntt c2 hi hv).symm
  · cases h
theorem step_of {c : Value} {k : Nat} {acc : List Value} (hl : ∃ h : Nat → Int, acc = ivs h 0 12) {L A : Nat → Q} (h1 : ∀ i, i < 4 → layD (layX c k) (rq c k 3) i = some (L i)) (h2 : ∀ i, i < 4 → validQ (accQ acc i) = true)
    (h3 : ∀ i, i < 4 → mulM (accQ acc) L i = some (A i)) : ∃ acc', filmStep c k acc = some acc' ∧ ∀ i, i < 4 → accQ acc' i = A i := by
  obtain ⟨g, hg⟩ := hl
  have c1 : nttT 4 true (layD (layX c k) (rq c k 3)) = true := nttT_intro rfl fun i hi => ⟨_, h1 i hi⟩
  have eL : ∀ i, i < 4 → accQ ((layO c k).take 12) i = L i := fun i hi => acc_ntt c1 hi (h1 i hi)
  obtain ⟨e1, e2⟩ := both_get acc g ((layO c k).take 12) hg _ rfl
  have e2' : ∀ i, i < 4 → q3 (acc ++ (layO c k).take 12) (12 + 3 * i) = L i := fun i hi => (e2 i hi).trans (eL i hi)
  have hv := lay_valid h1
  have hm : ∀ i, i < 4 → mulM (fun j => q3 (acc ++ (layO c k).take 12) (3 * j)) (fun j => q3 (acc ++ (layO c k).take 12) (12 + 3 * j)) i = some (A i) := fun i hi => (mulM_congr e1 e2' hi).trans (h3 i hi)
  have c2 : nttT 4 (matQ (fun j => q3 (acc ++ (layO c k).take 12) (3 * j)) && matQ (fun j => q3 (acc ++ (layO c k).take 12) (12 + 3 * j))) (mulM (fun j => q3 (acc ++ (layO c k).take 12) (3 * j)) (fun j => q3 (acc ++ (layO c k).take 12) (12 + 3 * j))) = true := by
    refine nttT_intro ?_ fun i hi => ⟨_, hm i hi⟩
    rw [mat_intro fun i hi => by rw [e1 i hi]; exact h2 i hi, mat_intro fun i hi => by rw [e2' i hi]; exact hv i hi]
    rfl
  refine ⟨(G_iMatTimes.out (acc ++ (layO c k).take 12)).take 12, ?_, fun i hi => acc_ntt c2 hi (hm i hi)⟩
  unfold filmStep
  rw [show b0 (layO c k) 12 = true from c1, show b0 (G_iMatTimes.out (acc ++ (layO c k).take 12)) 12 = true from c2]
  rfl
theorem same_acc : ∀ i, i < 4 → accQ sameL i = idM oneQ i := get4 rfl rfl rfl rfl
/-- All that a film's matrix is: valid, of the determinant 1. -/
theorem film_facts {c : Value} : ∀ {k : Nat} {acc : List Value}, filmR c k = some acc → (∀ i, i < 4 → validQ (accQ acc i) = true) ∧ Uni (accQ acc)
  | 0, acc, h => by
    cases h
    refine ⟨fun i hi => by rw [same_acc i hi]; match i, hi with
      | 0, _ => exact oneQ_valid
      | 1, _ => exact nil1_valid
      | 2, _ => exact nil1_valid
      | 3, _ => exact oneQ_valid, ?_⟩
    unfold Uni dre dim
    dsimp only
    rw [same_acc 0 (by omega), same_acc 1 (by omega), same_acc 2 (by omega), same_acc 3 (by omega)]
    simp only [idM, oneQ_re, oneQ_im, nilQ_re, nilQ_im]
    constructor <;> grind
  | k + 1, acc, h => by
    obtain ⟨a, ha, hs⟩ := Option.bind_eq_some_iff.1 h
    obtain ⟨v, u⟩ := film_facts ha
    obtain ⟨L, l1, l2, l3⟩ := step_some (filmR_lit ha) hs
    exact ⟨fun i hi => (mul_val l3 i hi).2.2, uni_mul l3 u (lay_uni l1)⟩
theorem lay_congr {c d : Value} {k : Nat} (h : ∀ j, j < 4 → rq c k j = rq d k j) : layO c k = layO d k := by
  unfold layO
  rw [h 0 (by omega), h 1 (by omega), h 2 (by omega), h 3 (by omega)]
theorem film_congr {c d : Value} : ∀ {n : Nat}, (∀ k, k < n → ∀ j, j < 4 → rq c k j = rq d k j) → filmR c n = filmR d n
  | 0, _ => rfl
  | n + 1, h => by
    have e := lay_congr (h n (by omega))
    have hs : filmStep c n = filmStep d n := by
      funext acc
      unfold filmStep
      rw [e]
    show (filmR c n).bind (filmStep c n) = (filmR d n).bind (filmStep d n)
    rw [film_congr fun k hk => h k (by omega), hs]
theorem layP_congr {c d : Value} {k : Nat} (h : ∀ j, j < 4 → rq c k j = rq d k j) : layP c k = layP d k := by
  unfold layP
  rw [h 0 (by omega), h 1 (by omega), h 2 (by omega), h 3 (by omega)]
theorem allB_cong2 {p q : Nat → Bool} : ∀ (n k : Nat), (∀ i, k ≤ i → i < k + n → p i = q i) → allB p k n = allB q k n
  | 0, _, _ => rfl
  | n + 1, k, h => by rw [allB, allB, h k (Nat.le_refl _) (by omega), allB_cong2 n (k + 1) fun i h1 h2 => h i (by omega) (by omega)]
/-- A layer more. -/
def rowMore (c : Value) (vs : List Value) : Value := .agg (c.cells.toList ++ vs).toArray
theorem more_size {c : Value} {n : Nat} {vs : List Value} (hc : c.cells.size = n * 4) (hl : vs.length = 4) : (rowMore c vs).cells.size = (n + 1) * 4 := by
  simp only [rowMore, Value.cells, List.size_toArray, List.length_append, Array.length_toList, hl]
  have := hc
  simp only [Value.cells] at this
  omega
theorem more_old {c : Value} {n : Nat} {vs : List Value} (hc : c.cells.size = n * 4) : ∀ k, k < n → ∀ j, j < 4 → rq (rowMore c vs) k j = rq c k j := by
  intro k hk j hj
  unfold rq rowMore
  have e : (Value.agg (c.cells.toList ++ vs).toArray).cells = (c.cells.toList ++ vs).toArray := rfl
  rw [e]
  have hlt : k * 4 + j < c.cells.size := by omega
  simp [Array.getD_eq_getD_getElem?, List.getElem?_append_left (show k * 4 + j < c.cells.toList.length by simpa using hlt)]
theorem more_new {c : Value} {n : Nat} {vs : List Value} (hc : c.cells.size = n * 4) (j : Nat) : rq (rowMore c vs) n j = toI (vs.getD j undef) := by
  unfold rq rowMore
  have e : (Value.agg (c.cells.toList ++ vs).toArray).cells = (c.cells.toList ++ vs).toArray := rfl
  rw [e]
  simp [Array.getD_eq_getD_getElem?, List.getD_eq_getElem?_getD, List.getElem?_append_right (show c.cells.toList.length ≤ n * 4 + j by simp; omega), hc]
/-- Two lists of twelve numbers that hold the same fractions. -/
theorem acc_ext {g h : Nat → Int} (e : ∀ i, i < 4 → accQ (ivs g 0 12) i = accQ (ivs h 0 12) i) : ivs g 0 12 = ivs h 0 12 := by
  have t : ∀ i, i < 12 → g i = h i := fun i hi => by
    have hq : i / 3 < 4 := by omega
    have := e (i / 3) hq
    rw [acc_tri g _ hq, acc_tri h _ hq] at this
    rw [← cmp_tri g i, ← cmp_tri h i, this]
  have key : ∀ (n k : Nat), k + n ≤ 12 → ivs g k n = ivs h k n := by
    intro n
    induction n with
    | zero => intro k _; rfl
    | succ n ih => intro k hk; rw [ivs, ivs, t k (by omega), ih (k + 1) (by omega)]
  exact key 12 0 (by omega)
/-- Two films. -/
def twoFilms (cb : CodeB) : Spec := fun ins K => drawPre cb ins ∧ ∀ a n cap c b m cap2 d, n ≤ 4 → c.cells.size = n * 4 → m ≤ 5 → d.cells.size = m * 4 → K [.slice a n cap, .slice b m cap2, c, d]
def SP_DrawFilmSame (cb : CodeB) : Spec := twoFilms cb
theorem sat_DrawFilmSame (P : Program) (cb : CodeB) (hk : CodeOk cb) (ins : List Value) (K : List Value → Prop) (ht : TypedL [.sl] ins) (h : SP_DrawFilmSame cb ins K) : sat P (Ss_DrawFilmSame cb) tr_DrawFilmSame ins [] K := by
  obtain ⟨⟨v, rfl, hv⟩, hK⟩ := h
  refine ⟨hv, evs_nil ?_⟩
  refine evs_step (call_step (sp := SP_l92Film cb) rfl ⟨openV v, 0, 1000, rfl, openV_good hv, by omega, by omega, .inl rfl, fun a n cap c b z h1 h2 h3 hb z0 z1 => evs_nil ?_⟩)
  refine evs_step (call_step (sp := (G_pick cb).spec) rfl (pick_use hk (m := 2) (by omega) (by omega) hb z0 (by omega) fun x x0 x1 => evs_nil ?_))
  refine ⟨fun _ => ?_, fun _ => ?_⟩
  · refine evs_step (app_empty (by omega) fun a2 cap2 => ?_)
    refine app_step (xs := []) (ys := c.cells.toList) rfl rfl (by simp [h3]; omega) fun a3 len3 cap3 _ hl3 => ?_
    refine app_step (xs := c.cells.toList) (ys := [.int .i64 3, .int .i64 0, .int .i64 2, .int .i64 2]) (by show Value.agg ([] ++ c.cells.toList).toArray = _; rw [List.nil_append]) rfl (by simp [h3]; omega) fun a4 len4 cap4 _ hl4 => evs_nil ?_
    have hl : len4 = n + 1 := by
      simp [h3] at hl4
      omega
    subst hl
    exact hK a n cap c a4 (n + 1) cap4 (rowMore c [.int .i64 3, .int .i64 0, .int .i64 2, .int .i64 2]) h1 h3 (by omega) (more_size h3 rfl)
  · refine evs_step (call_step (sp := SP_l92Film cb) rfl ⟨b, z + 1, 3000, rfl, hb, by omega, by omega, .inr rfl, fun a' n' cap' c' b' z' g1 g2 g3 _ _ _ => evs_nil ?_⟩)
    exact hK a n cap c a' n' cap' c' h1 h3 (by omega) g3

def tr_FnFilmSame : Tr :=
  (.ite (.cmp .gtr (.len (.var 0)) (.int .i64 1048576))
  (.ret [(.bool true)])
  (.evs [.call 0 [(.var 0)] none 4]
   (.evs [.call 1 [(.var 1), (.var 2), (.var 3), (.var 4)] none 1]
   (.evs [.call 2 [(.var 1), (.var 2), (.var 3), (.var 4)] none 1]
   (.ite (.ite (.not (.eqb (.var 5) (.var 6))) (.bool true) (.not (.var 5)))
   (.ret [(.eqb (.var 5) (.var 6))])
   (.evs [.call 3 [(.var 1), (.int .i64 1), (.int .i64 0), (.int .i64 1), (.int .i64 2), (.int .i64 0), (.int .i64 1), (.var 3)] none 4]
    (.evs [.call 3 [(.var 2), (.int .i64 1), (.int .i64 0), (.int .i64 1), (.int .i64 2), (.int .i64 0), (.int .i64 1), (.var 4)] none 4]
    (.evs [.call 1 [(.var 2), (.var 1), (.var 4), (.var 3)] none 1]
    (.ret [(.ite (.var 15) (.ite (.ite (.not (.var 10)) (.bool true) (.not (.var 14))) (.bool true) (.ite (.cmp .eql (.var 7) (.var 11)) (.ite (.cmp .eql (.var 8) (.var 12)) (.cmp .eql (.var 9) (.var 13)) (.bool false)) (.bool false))) (.bool false))])))))))))
def Ss_FnFilmSame (cb : CodeB) : List Spec := [(SP_DrawFilmSame cb), G_iFilmSame.spec, G_sFilmSame.spec, G_iFilmReflected.spec]
-- part eq3
def eq3 (a b : Q) : Value := if toB (.bool (a.1 == b.1)) = true then (if toB (.bool (a.2.1 == b.2.1)) = true then .bool (a.2.2 == b.2.2) else .bool false) else .bool false
theorem eq3_self (a : Q) : eq3 a a = .bool true := by simp [eq3]
-- part frl
theorem fr4_lit (o : Option Q) : fr4 o = vQ (o.getD zq) ++ [.bool o.isSome] := rfl
theorem law_two {P : Program} {cb : CodeB} {specs : List Spec} {t : Tr} {n : Nat} {ins : List Value} {K : List Value → Prop}
    (h : ∀ v a n cap c b m cap2 d, n ≤ 4 → c.cells.size = n * 4 → m ≤ 5 → d.cells.size = m * 4 → sat P (twoFilms cb :: specs) t [v, .slice a n cap, .slice b m cap2, c, d] [] K)
    (hp : (lawF cb).pre ins) (hK : K [.bool true]) :
    sat P (twoFilms cb :: specs) (.ite (.cmp .gtr (.len (.var 0)) (.int .i64 1048576)) (.ret [.bool true]) (.evs [.call 0 [.var 0] none n] t)) ins [] K := by
  obtain ⟨a, m, cap, rfl, hm, hg⟩ := hp
  refine ⟨fun _ => hK, fun hc => ?_⟩
  have hm2 : m ≤ 1048576 := by
    have hc : Value.bool (decide ((m : Int) > 1048576)) = .bool false := hc
    simp only [Value.bool.injEq, decide_eq_false_iff_not] at hc
    omega
  exact ⟨⟨_, rfl, hg hm2⟩, fun a' n' cap' c b m cap2 d h1 h2 h3 h4 => h _ a' n' cap' c b m cap2 d h1 h2 h3 h4⟩
theorem same_comm {R S : List Value} (h : sameB R S = true) : sameB S R = true := by
  unfold sameB at h ⊢
  rw [Bool.and_eq_true, Bool.and_eq_true] at h
  rw [h.1.1, h.1.2, alike_comm h.2]
  rfl
theorem sat_FnFilmSame (P : Program) (cb : CodeB) (hk : CodeOk cb) (ins : List Value) (K : List Value → Prop) (_ : TypedL [.sl] ins) (hp : (lawF cb).pre ins) (hK : K [.bool true]) : sat P (Ss_FnFilmSame cb) tr_FnFilmSame ins [] K := by
  refine law_two (fun v a n cap c b m cap2 d hn hc hm hd => ?_) hp hK
  have fitc : Fit4 (.slice a n cap) c := fit4_of hc (by omega)
  have fitd : Fit4 (.slice b m cap2) d := fit4_of hd (by omega)
  generalize hB : sameB (filmV (.slice a n cap) c) (filmV (.slice b m cap2) d) = B
  refine evs_step (call_step (sp := G_iFilmSame.spec) rfl ⟨⟨fitc, fitd⟩, evs_nil ?_⟩)
  refine evs_step (call_step (sp := G_sFilmSame.spec) rfl ⟨⟨fitc, fitd⟩, evs_nil ?_⟩)
  show sat P _ _ ([v, .slice a n cap, .slice b m cap2, c, d] ++ [.bool (sameB (filmV (.slice a n cap) c) (filmV (.slice b m cap2) d))] ++ [.bool (sameB (filmV (.slice a n cap) c) (filmV (.slice b m cap2) d))]) _ K
  rw [hB]
  refine ⟨fun _ => ?_, fun hf => ?_⟩
  · show K [.bool (B == B)]
    rw [beq_self_eq_true]
    exact hK
  · have hf : (if toB (.bool (!(B == B))) = true then Value.bool true else .bool (!B)) = .bool false := hf
    rw [beq_self_eq_true] at hf
    cases B with
    | false => cases hf
    | true =>
    generalize hx : reflQ (matOf (.slice a n cap) c) (okOf (.slice a n cap) c) (1, 0, 1) (2, 0, 1) = x
    generalize hy : reflQ (matOf (.slice b m cap2) d) (okOf (.slice b m cap2) d) (1, 0, 1) (2, 0, 1) = y
    refine evs_step (call_step (sp := G_iFilmReflected.spec) rfl ⟨fitc, evs_nil ?_⟩)
    refine evs_step (call_step (sp := G_iFilmReflected.spec) rfl ⟨fitd, evs_nil ?_⟩)
    show sat P _ _ ([v, .slice a n cap, .slice b m cap2, c, d, .bool true, .bool true] ++ fr4 (reflQ (matOf (.slice a n cap) c) (okOf (.slice a n cap) c) (1, 0, 1) (2, 0, 1)) ++ fr4 (reflQ (matOf (.slice b m cap2) d) (okOf (.slice b m cap2) d) (1, 0, 1) (2, 0, 1))) _ K
    rw [hx, hy, fr4_lit, fr4_lit]
    refine evs_step (call_step (sp := G_iFilmSame.spec) rfl ⟨⟨fitd, fitc⟩, evs_nil ?_⟩)
    show K [if toB (.bool (sameB (filmV (.slice b m cap2) d) (filmV (.slice a n cap) c))) = true then (if toB (if toB (.bool (!x.isSome)) = true then Value.bool true else .bool (!y.isSome)) = true then Value.bool true else eq3 (x.getD zq) (y.getD zq)) else .bool false]
    rw [same_comm hB]
    cases x with
    | none => exact hK
    | some x =>
      cases y with
      | none => exact hK
      | some y =>
        have hal : alikeB (matOf (.slice a n cap) c) (matOf (.slice b m cap2) d) = true := by
          unfold sameB at hB
          rw [Bool.and_eq_true] at hB
          exact hB.2
        rw [refl_same hal (by decide +kernel) (by decide +kernel) hx hy]
        show K [eq3 y y]
        rw [eq3_self]
        exact hK

end Go.Sx

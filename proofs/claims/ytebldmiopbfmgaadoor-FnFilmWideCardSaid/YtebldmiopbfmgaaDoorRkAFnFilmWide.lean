/- What the functions reckon, by their trees. -/
import Derived.Test.YtebldmiopbfmgaaDoorEg
import Derived.KernelRfl
namespace Go.Sx
open Go
set_option maxRecDepth 100000
set_option linter.unusedSimpArgs false
set_option linter.unusedVariables false

def tr_size : Tr :=
  (.ret [(.mx false .i64 (.var 0) (.ar .sub .i64 (.int .i64 0) (.var 0)))])
def Fs_size : List Fun1 := []
def F_size : Fun1 := ofTree Fs_size tr_size

def tr_within : Tr :=
  (.ret [(.ite (.cmp .geq (.var 0) (.var 1)) (.cmp .leq (.var 0) (.var 2)) (.bool false))])
def Fs_within : List Fun1 := []
def F_within : Fun1 := ofTree Fs_within tr_within
def G_within : Fun1 := ⟨fun _ => True, fun ins => [.bool (inRg (i0 ins 0) (i0 ins 1) (i0 ins 2))]⟩
theorem as_within (ins : List Value) (ht : TypedL [.int .i64, .int .i64, .int .i64] ins) (_ : G_within.pre ins) : F_within.pre ins ∧ F_within.out ins = G_within.out ins := by
  obtain ⟨a, b, c, rfl, _, _, _⟩ := ints3 ht
  refine ⟨trivial, ?_⟩
  show [if (decide (a ≥ b)) = true then Value.bool (decide (a ≤ c)) else Value.bool false] = [Value.bool (decide (b ≤ a) && decide (a ≤ c))]
  by_cases h : b ≤ a <;> simp [h]

def tr_l6In : Tr :=
  (.ret [(.ite (.cmp .geq (.var 0) (.var 1)) (.cmp .leq (.var 0) (.var 2)) (.bool false))])
def Fs_l6In : List Fun1 := []
def F_l6In : Fun1 := ofTree Fs_l6In tr_l6In
def G_l6In : Fun1 := ⟨fun _ => True, fun ins => [.bool (inRg (i0 ins 0) (i0 ins 1) (i0 ins 2))]⟩
theorem as_l6In (ins : List Value) (ht : TypedL [.int .i64, .int .i64, .int .i64] ins) (_ : G_l6In.pre ins) : F_l6In.pre ins ∧ F_l6In.out ins = G_l6In.out ins := by
  obtain ⟨a, b, c, rfl, _, _, _⟩ := ints3 ht
  refine ⟨trivial, ?_⟩
  show [if (decide (a ≥ b)) = true then Value.bool (decide (a ≤ c)) else Value.bool false] = [Value.bool (decide (b ≤ a) && decide (a ≤ c))]
  by_cases h : b ≤ a <;> simp [h]
def A_l6In : AF := aAny 1
theorem aok_l6In {cb : CodeB} : AOK cb G_l6In A_l6In := aAny_ok (fun _ => trivial) (fun ins => by rfl)

def tr_l2In : Tr :=
  (.evs [.call 0 [(.var 0), (.int .i64 (-2000000000)), (.int .i64 2000000000)] none 1]
  (.ret [(.var 1)]))
def Fs_l2In : List Fun1 := [G_l6In]
def F_l2In : Fun1 := ofTree Fs_l2In tr_l2In
def G_l2In : Fun1 := ⟨fun _ => True, fun ins => [.bool (inR (i0 ins 0))]⟩
theorem as_l2In (ins : List Value) (ht : TypedL [.int .i64] ins) (_ : G_l2In.pre ins) : F_l2In.pre ins ∧ F_l2In.out ins = G_l2In.out ins := by
  obtain ⟨a, rfl, _⟩ := ints1 ht
  exact ⟨⟨⟨trivial, trivial⟩, trivial⟩, rfl⟩

def tr_divisor : Tr :=
  (.lp 0 [(.var 0), (.var 1)] [.int .i64, .int .i64]
  (.ite (.cmp .neq (.var 3) (.int .i64 0))
   (.evs [.need [(.cmp .neq (.var 3) (.int .i64 0))]]
    (.next 0 [(.var 3), (.ar .rem .i64 (.var 2) (.var 3))]))
   (.ret [(.var 2)])))
def Fs_divisor : List Fun1 := []
def F_divisor : Fun1 := ⟨fun _ => True, fun ins => [.int .i64 (euc (i0 ins 0) (i0 ins 1))]⟩
theorem sat_divisor (P : Program) (ins : List Value) (K : List Value → Prop) (ht : TypedL [.int .i64, .int .i64] ins) (_ : F_divisor.pre ins) (hK : K (F_divisor.out ins)) : sat P (specsOf Fs_divisor) tr_divisor ins [] K := by
  obtain ⟨a, b, rfl, wa, wb⟩ := ints2 ht
  refine ⟨fun vs => ∃ x y, vs = [.int .i64 x, .int .i64 y] ∧ euc x y = euc a b, fun vs => (toI (vs.getD 1 undef)).natAbs, ⟨a, b, rfl, rfl⟩, ?_⟩
  rintro vs hty ⟨x, y, rfl, he⟩
  refine ⟨fun hc => ?_, fun hc => ?_⟩
  · have hy : y ≠ 0 := by simpa [ev, cmpI] using hc
    refine ⟨fun e he' => by rw [List.mem_singleton.1 he']; exact hc, ⟨_, _, rfl, ?_⟩, ?_⟩
    · rw [← he, euc_step hy]; rfl
    · show (x.tmod y).natAbs < y.natAbs
      rw [Int.natAbs_tmod]
      exact Nat.mod_lt _ (by omega)
  · have hy : y = 0 := by simpa [ev, cmpI] using hc
    subst hy
    rw [euc_zero] at he
    show K [.int .i64 x]
    rw [he]
    exact hK

def tr_l2Gcd : Tr :=
  (.lp 0 [(.var 0), (.var 1)] [.int .i64, .int .i64]
  (.ite (.cmp .neq (.var 3) (.int .i64 0))
   (.evs [.need [(.cmp .neq (.var 3) (.int .i64 0))]]
    (.next 0 [(.var 3), (.ar .rem .i64 (.var 2) (.var 3))]))
   (.ret [(.mx false .i64 (.var 2) (.ar .sub .i64 (.int .i64 0) (.var 2)))])))
def Fs_l2Gcd : List Fun1 := []
def F_l2Gcd : Fun1 := ⟨fun _ => True, fun ins => [.int .i64 (mxI false (euc (i0 ins 0) (i0 ins 1)) (IntKind.i64.wrap (0 - euc (i0 ins 0) (i0 ins 1))))]⟩
theorem sat_l2Gcd (P : Program) (ins : List Value) (K : List Value → Prop) (ht : TypedL [.int .i64, .int .i64] ins) (_ : F_l2Gcd.pre ins) (hK : K (F_l2Gcd.out ins)) : sat P (specsOf Fs_l2Gcd) tr_l2Gcd ins [] K := by
  obtain ⟨a, b, rfl, wa, wb⟩ := ints2 ht
  refine ⟨fun vs => ∃ x y, vs = [.int .i64 x, .int .i64 y] ∧ euc x y = euc a b, fun vs => (toI (vs.getD 1 undef)).natAbs, ⟨a, b, rfl, rfl⟩, ?_⟩
  rintro vs hty ⟨x, y, rfl, he⟩
  refine ⟨fun hc => ?_, fun hc => ?_⟩
  · have hy : y ≠ 0 := by simpa [ev, cmpI] using hc
    refine ⟨fun e he' => by rw [List.mem_singleton.1 he']; exact hc, ⟨_, _, rfl, ?_⟩, ?_⟩
    · rw [← he, euc_step hy]; rfl
    · show (x.tmod y).natAbs < y.natAbs
      rw [Int.natAbs_tmod]
      exact Nat.mod_lt _ (by omega)
  · have hy : y = 0 := by simpa [ev, cmpI] using hc
    subst hy
    rw [euc_zero] at he
    show K [.int .i64 (mxI false x (IntKind.i64.wrap (0 - x)))]
    rw [he]
    exact hK

def tr_lowest : Tr :=
  (.evs [.call 0 [(.var 0)] none 1,
    .call 0 [(.var 1)] none 1,
    .call 1 [(.var 3), (.var 4)] none 1,
    .call 1 [(.var 5), (.var 2)] none 1]
  (.evs [.need [(.cmp .neq (.var 6) (.int .i64 0)), (.cmp .neq (.var 6) (.int .i64 0)), (.cmp .neq (.var 6) (.int .i64 0))]]
  (.evs [.call 2 [(.ar .quo .i64 (.var 0) (.var 6)), (.int .i64 (-2000000000)), (.int .i64 2000000000)] none 1,
    .call 2 [(.ar .quo .i64 (.var 1) (.var 6)), (.int .i64 (-2000000000)), (.int .i64 2000000000)] (some (.not (.not (.var 7)))) 1]
  (.ite (.ite (.ite (.not (.var 7)) (.bool true) (.not (.var 8))) (.bool true) (.cmp .gtr (.ar .quo .i64 (.var 2) (.var 6)) (.int .i64 2000000000)))
  (.ret [(.int .i64 0), (.int .i64 0), (.int .i64 0), (.bool false)])
  (.ret [(.ar .quo .i64 (.var 0) (.var 6)), (.ar .quo .i64 (.var 1) (.var 6)), (.ar .quo .i64 (.var 2) (.var 6)), (.bool true)])))))
def Fs_lowest : List Fun1 := [F_size, F_divisor, G_within]
def F_lowest : Fun1 := ofTree Fs_lowest tr_lowest
def G_lowest : Fun1 := ⟨fun ins => lowOk (i0 ins 0) (i0 ins 1) (i0 ins 2), fun ins => fr4 (lowI (i0 ins 0) (i0 ins 1) (i0 ins 2))⟩
theorem as_lowest (ins : List Value) (ht : TypedL [.int .i64, .int .i64, .int .i64] ins) (hp : G_lowest.pre ins) : F_lowest.pre ins ∧ F_lowest.out ins = G_lowest.out ins := by
  obtain ⟨a, b, c, rfl, wa, wb, wc⟩ := ints3 ht
  obtain ⟨p1, p2, p3, p4, p5, p6⟩ : lowOk a b c := hp
  have e1 := size_abs ⟨p1, p2⟩
  have e2 := size_abs ⟨p3, p4⟩
  have e3 : euc (a.natAbs : Nat) (b.natAbs : Nat) = (Nat.gcd a.natAbs b.natAbs : Nat) := euc_nat _ _
  have e4 : euc (Nat.gcd a.natAbs b.natAbs : Nat) c = (gcd3 a b c : Nat) := by rw [euc_eq (by omega) (by omega)]; rfl
  have hg : gcd3 a b c ≠ 0 := by have := gcd3_pos (a := a) (b := b) p5; omega
  have hgi : ((gcd3 a b c : Nat) : Int) ≠ 0 := by omega
  have q1 := quo_ok (g := gcd3 a b c) ⟨p1, p2⟩
  have q2 := quo_ok (g := gcd3 a b c) ⟨p3, p4⟩
  have q3 := quo_ok (a := c) (g := gcd3 a b c) ⟨by omega, p6⟩
  simp only [F_lowest, G_lowest, tr_lowest, Fs_lowest, F_size, tr_size, Fs_size, F_divisor, G_within, lowI, arI, ofTree, okT, okE, evalT, evalE, evsIn, ev, callF, preF, hasF, needs, i0, b0, toI_int, toB_bool, List.getD_cons_zero, List.getD_cons_succ, List.cons_append, List.nil_append, List.replicate, if_true, if_false, Bool.false_eq_true, and_true, true_and, implies_true, forall_const, false_implies, cmpI, Bool.not_true, Bool.not_false, Bool.true_and, Bool.false_and, Bool.and_true, Bool.and_false, reduceIte, List.append_nil, reduceCtorEq, e1, e2, e3, e4, q1, q2, q3]
  have r1 : ∀ z, inRg z (-2000000000) 2000000000 = inR z := fun _ => rfl
  simp only [r1]
  cases h1 : inR (a.tdiv (gcd3 a b c)) <;> cases h2 : inR (b.tdiv (gcd3 a b c)) <;> by_cases h3 : c.tdiv (gcd3 a b c) ≤ 2000000000 <;> simp [h1, h2, h3, hgi, hg, fr4, zq] <;> omega

def tr_sFracValid : Tr :=
  (.evs [.call 0 [(.var 0)] none 1,
    .call 0 [(.var 1)] (some (.var 3)) 1,
    .call 1 [(.var 2), (.int .i64 1), (.int .i64 2000000000)] (some (.ite (.var 3) (.var 4) (.bool false))) 1,
    .call 2 [(.var 2), (.var 0)] (some (.ite (.ite (.var 3) (.var 4) (.bool false)) (.var 5) (.bool false))) 1,
    .call 2 [(.var 6), (.var 1)] (some (.ite (.ite (.var 3) (.var 4) (.bool false)) (.var 5) (.bool false))) 1]
  (.ret [(.ite (.ite (.ite (.var 3) (.var 4) (.bool false)) (.var 5) (.bool false)) (.cmp .eql (.var 7) (.int .i64 1)) (.bool false))]))
def Fs_sFracValid : List Fun1 := [G_l2In, G_l6In, F_l2Gcd]
def F_sFracValid : Fun1 := ofTree Fs_sFracValid tr_sFracValid
def G_sFracValid : Fun1 := ⟨fun _ => True, fun ins => [.bool (validI (i0 ins 0) (i0 ins 1) (i0 ins 2))]⟩
theorem as_sFracValid (ins : List Value) (ht : TypedL [.int .i64, .int .i64, .int .i64] ins) (_ : G_sFracValid.pre ins) : F_sFracValid.pre ins ∧ F_sFracValid.out ins = G_sFracValid.out ins := by
  obtain ⟨a, b, c, rfl, wa, wb, wc⟩ := ints3 ht
  have key : inR a = true → inR b = true → inRg c 1 2000000000 = true → mxI false (euc c a) (IntKind.i64.wrap (0 - euc c a)) = (Nat.gcd c.natAbs a.natAbs : Nat) ∧
      mxI false (euc (Nat.gcd c.natAbs a.natAbs : Nat) b) (IntKind.i64.wrap (0 - euc (Nat.gcd c.natAbs a.natAbs : Nat) b)) = (gcd3 a b c : Nat) := by
    intro ha hb hc
    simp only [inR, inRg, Bool.and_eq_true, decide_eq_true_eq] at ha hb hc
    have h0 : Nat.gcd c.natAbs a.natAbs ≤ c.natAbs := Nat.gcd_le_left _ (by omega)
    have hp : 0 < Nat.gcd c.natAbs a.natAbs := Nat.gcd_pos_of_pos_left _ (by omega)
    refine ⟨gcd_small (by omega), ?_⟩
    have h2 : Nat.gcd ((Nat.gcd c.natAbs a.natAbs : Nat) : Int).natAbs b.natAbs ≤ Nat.gcd c.natAbs a.natAbs := Nat.gcd_le_left _ hp
    rw [gcd_small (by omega), Int.natAbs_natCast, gcd3_alt]
  simp only [F_sFracValid, G_sFracValid, tr_sFracValid, Fs_sFracValid, G_l2In, G_l6In, F_l2Gcd, validI, ofTree, okT, okE, evalT, evalE, evsIn, ev, callF, preF, hasF, needs, i0, b0, toI_int, toB_bool, List.getD_cons_zero, List.getD_cons_succ, List.cons_append, List.nil_append, List.replicate, if_true, if_false, Bool.false_eq_true, and_true, true_and, implies_true, forall_const, false_implies, cmpI, Bool.not_true, Bool.not_false, Bool.true_and, Bool.false_and, Bool.and_true, Bool.and_false, reduceIte, List.append_nil, reduceCtorEq]
  cases ha : inR a
  · simp [ha]
  · cases hb : inR b
    · simp [ha, hb]
    · cases hc : inRg c 1 2000000000
      · simp [ha, hb, hc]
      · obtain ⟨k1, k2⟩ := key ha hb hc
        simp only [ha, hb, hc, k1, k2, ofTree, okT, okE, evalT, evalE, evsIn, ev, callF, preF, hasF, needs, i0, b0, toI_int, toB_bool, List.getD_cons_zero, List.getD_cons_succ, List.cons_append, List.nil_append, List.replicate, if_true, if_false, Bool.false_eq_true, and_true, true_and, implies_true, forall_const, false_implies, cmpI, Bool.not_true, Bool.not_false, Bool.true_and, Bool.false_and, Bool.and_true, Bool.and_false, reduceIte, List.append_nil, reduceCtorEq]
        simp
        by_cases h1 : gcd3 a b c = 1
        · simp [h1]
        · rw [beq_eq_false_iff_ne.2 h1, beq_eq_false_iff_ne]
          omega

def tr_l2Low : Tr :=
  (.evs [.call 0 [(.var 2), (.var 0)] none 1,
    .call 0 [(.var 3), (.var 1)] none 1]
  (.evs [.need [(.cmp .neq (.var 4) (.int .i64 0)), (.cmp .neq (.var 4) (.int .i64 0)), (.cmp .neq (.var 4) (.int .i64 0))]]
  (.evs [.call 1 [(.ar .quo .i64 (.var 0) (.var 4)), (.ar .quo .i64 (.var 1) (.var 4)), (.ar .quo .i64 (.var 2) (.var 4))] none 1]
  (.ite (.not (.var 5))
  (.ret [(.int .i64 0), (.int .i64 0), (.int .i64 0), (.bool false)])
  (.ret [(.ar .quo .i64 (.var 0) (.var 4)), (.ar .quo .i64 (.var 1) (.var 4)), (.ar .quo .i64 (.var 2) (.var 4)), (.bool true)])))))
def Fs_l2Low : List Fun1 := [F_l2Gcd, G_sFracValid]
def F_l2Low : Fun1 := ofTree Fs_l2Low tr_l2Low
def G_l2Low : Fun1 := ⟨fun ins => lowOk (i0 ins 0) (i0 ins 1) (i0 ins 2), fun ins => fr4 (lowI (i0 ins 0) (i0 ins 1) (i0 ins 2))⟩
theorem as_l2Low (ins : List Value) (ht : TypedL [.int .i64, .int .i64, .int .i64] ins) (hp : G_l2Low.pre ins) : F_l2Low.pre ins ∧ F_l2Low.out ins = G_l2Low.out ins := by
  obtain ⟨a, b, c, rfl, wa, wb, wc⟩ := ints3 ht
  obtain ⟨p1, p2, p3, p4, p5, p6⟩ : lowOk a b c := hp
  have hc0 : 0 < c.natAbs := by omega
  have g1 : Nat.gcd c.natAbs a.natAbs ≤ c.natAbs := Nat.gcd_le_left _ hc0
  have gp : 0 < Nat.gcd c.natAbs a.natAbs := Nat.gcd_pos_of_pos_left _ hc0
  have e1 : mxI false (euc c a) (IntKind.i64.wrap (0 - euc c a)) = (Nat.gcd c.natAbs a.natAbs : Nat) := gcd_small (by omega)
  have g2 : Nat.gcd ((Nat.gcd c.natAbs a.natAbs : Nat) : Int).natAbs b.natAbs ≤ Nat.gcd c.natAbs a.natAbs := Nat.gcd_le_left _ gp
  have e2 : mxI false (euc (Nat.gcd c.natAbs a.natAbs : Nat) b) (IntKind.i64.wrap (0 - euc (Nat.gcd c.natAbs a.natAbs : Nat) b)) = (gcd3 a b c : Nat) := by
    rw [gcd_small (by omega), Int.natAbs_natCast, gcd3_alt]
  have hg : gcd3 a b c ≠ 0 := by have := gcd3_pos (a := a) (b := b) p5; omega
  have hgi : ((gcd3 a b c : Nat) : Int) ≠ 0 := by omega
  have q1 := quo_ok (g := gcd3 a b c) ⟨p1, p2⟩
  have q2 := quo_ok (g := gcd3 a b c) ⟨p3, p4⟩
  have q3 := quo_ok (a := c) (g := gcd3 a b c) ⟨by omega, p6⟩
  simp only [F_l2Low, G_l2Low, tr_l2Low, Fs_l2Low, F_l2Gcd, G_sFracValid, lowI, arI, ofTree, okT, okE, evalT, evalE, evsIn, ev, callF, preF, hasF, needs, i0, b0, toI_int, toB_bool, List.getD_cons_zero, List.getD_cons_succ, List.cons_append, List.nil_append, List.replicate, if_true, if_false, Bool.false_eq_true, and_true, true_and, implies_true, forall_const, false_implies, cmpI, Bool.not_true, Bool.not_false, Bool.true_and, Bool.false_and, Bool.and_true, Bool.and_false, reduceIte, List.append_nil, reduceCtorEq, e1, e2, q1, q2, q3, valid_low p5]
  cases h1 : inR (a.tdiv (gcd3 a b c)) <;> cases h2 : inR (b.tdiv (gcd3 a b c)) <;> by_cases h3 : c.tdiv (gcd3 a b c) ≤ 2000000000 <;> simp [h1, h2, h3, hgi, hg, fr4, zq] <;> omega
def A_l2Low : AF
  | [.itv a b, .itv c d, .itv e f] => if decide (-9223372036854775808 < a) && (decide (b ≤ 9223372036854775807) && (decide (-9223372036854775808 < c) && (decide (d ≤ 9223372036854775807) && (decide (1 ≤ e) && decide (f ≤ 9223372036854775807))))) then some [.any, .any, .any, .any] else none
  | _ => none
theorem aok_l2Low {cb : CodeB} : AOK cb G_l2Low A_l2Low := by
  intro I O h ins hi
  match I, ins, hi, h with
  | [.itv a b, .itv c d, .itv e f], [x, y, z], ⟨⟨x', hx, x1, x2⟩, ⟨y', hy, y1, y2⟩, ⟨z', hz, z1, z2⟩, _⟩, h =>
    simp only [A_l2Low] at h
    split at h
    · rename_i hc
      cases h
      simp only [Bool.and_eq_true, decide_eq_true_eq] at hc
      subst hx hy hz
      exact ⟨show lowOk x' y' z' by unfold lowOk; omega, trivial, trivial, trivial, trivial, trivial⟩
    · cases h

def tr_iFracValid : Tr :=
  (.evs [.call 0 [(.var 0), (.int .i64 (-2000000000)), (.int .i64 2000000000)] none 1,
    .call 0 [(.var 1), (.int .i64 (-2000000000)), (.int .i64 2000000000)] (some (.var 3)) 1,
    .call 0 [(.var 2), (.int .i64 1), (.int .i64 2000000000)] (some (.ite (.var 3) (.var 4) (.bool false))) 1,
    .call 2 [(.var 0)] (some (.ite (.ite (.var 3) (.var 4) (.bool false)) (.var 5) (.bool false))) 1,
    .call 2 [(.var 1)] (some (.ite (.ite (.var 3) (.var 4) (.bool false)) (.var 5) (.bool false))) 1,
    .call 1 [(.var 6), (.var 7)] (some (.ite (.ite (.var 3) (.var 4) (.bool false)) (.var 5) (.bool false))) 1,
    .call 1 [(.var 8), (.var 2)] (some (.ite (.ite (.var 3) (.var 4) (.bool false)) (.var 5) (.bool false))) 1]
  (.ret [(.ite (.ite (.ite (.var 3) (.var 4) (.bool false)) (.var 5) (.bool false)) (.cmp .eql (.var 9) (.int .i64 1)) (.bool false))]))
def Fs_iFracValid : List Fun1 := [G_within, F_divisor, F_size]
def F_iFracValid : Fun1 := ofTree Fs_iFracValid tr_iFracValid
def G_iFracValid : Fun1 := ⟨fun _ => True, fun ins => [.bool (validI (i0 ins 0) (i0 ins 1) (i0 ins 2))]⟩
theorem as_iFracValid (ins : List Value) (ht : TypedL [.int .i64, .int .i64, .int .i64] ins) (_ : G_iFracValid.pre ins) : F_iFracValid.pre ins ∧ F_iFracValid.out ins = G_iFracValid.out ins := by
  obtain ⟨a, b, c, rfl, wa, wb, wc⟩ := ints3 ht
  have key : inR a = true → inR b = true → inRg c 1 2000000000 = true → mxI false a (IntKind.i64.wrap (0 - a)) = a.natAbs ∧ mxI false b (IntKind.i64.wrap (0 - b)) = b.natAbs ∧
      euc (a.natAbs : Nat) (b.natAbs : Nat) = (Nat.gcd a.natAbs b.natAbs : Nat) ∧ euc (Nat.gcd a.natAbs b.natAbs : Nat) c = (gcd3 a b c : Nat) := by
    intro ha hb hc
    simp only [inR, inRg, Bool.and_eq_true, decide_eq_true_eq] at ha hb hc
    exact ⟨size_abs (by omega), size_abs (by omega), euc_nat _ _, by rw [euc_eq (by omega) (by omega)]; rfl⟩
  have r1 : ∀ z, inRg z (-2000000000) 2000000000 = inR z := fun _ => rfl
  cases ha : inR a
  · simp only [F_iFracValid, G_iFracValid, tr_iFracValid, Fs_iFracValid, G_within, F_divisor, F_size, tr_size, Fs_size, validI, arI, r1, ha, ofTree, okT, okE, evalT, evalE, evsIn, ev, callF, preF, hasF, needs, i0, b0, toI_int, toB_bool, List.getD_cons_zero, List.getD_cons_succ, List.cons_append, List.nil_append, List.replicate, if_true, if_false, Bool.false_eq_true, and_true, true_and, implies_true, forall_const, false_implies, cmpI, Bool.not_true, Bool.not_false, Bool.true_and, Bool.false_and, Bool.and_true, Bool.and_false, reduceIte, List.append_nil, reduceCtorEq]
  · cases hb : inR b
    · simp only [F_iFracValid, G_iFracValid, tr_iFracValid, Fs_iFracValid, G_within, F_divisor, F_size, tr_size, Fs_size, validI, arI, r1, ha, hb, ofTree, okT, okE, evalT, evalE, evsIn, ev, callF, preF, hasF, needs, i0, b0, toI_int, toB_bool, List.getD_cons_zero, List.getD_cons_succ, List.cons_append, List.nil_append, List.replicate, if_true, if_false, Bool.false_eq_true, and_true, true_and, implies_true, forall_const, false_implies, cmpI, Bool.not_true, Bool.not_false, Bool.true_and, Bool.false_and, Bool.and_true, Bool.and_false, reduceIte, List.append_nil, reduceCtorEq]
    · cases hc : inRg c 1 2000000000
      · simp only [F_iFracValid, G_iFracValid, tr_iFracValid, Fs_iFracValid, G_within, F_divisor, F_size, tr_size, Fs_size, validI, arI, r1, ha, hb, hc, ofTree, okT, okE, evalT, evalE, evsIn, ev, callF, preF, hasF, needs, i0, b0, toI_int, toB_bool, List.getD_cons_zero, List.getD_cons_succ, List.cons_append, List.nil_append, List.replicate, if_true, if_false, Bool.false_eq_true, and_true, true_and, implies_true, forall_const, false_implies, cmpI, Bool.not_true, Bool.not_false, Bool.true_and, Bool.false_and, Bool.and_true, Bool.and_false, reduceIte, List.append_nil, reduceCtorEq]
      · obtain ⟨k1, k2, k3, k4⟩ := key ha hb hc
        simp only [F_iFracValid, G_iFracValid, tr_iFracValid, Fs_iFracValid, G_within, F_divisor, F_size, tr_size, Fs_size, validI, arI, r1, ha, hb, hc, k1, k2, k3, k4, ofTree, okT, okE, evalT, evalE, evsIn, ev, callF, preF, hasF, needs, i0, b0, toI_int, toB_bool, List.getD_cons_zero, List.getD_cons_succ, List.cons_append, List.nil_append, List.replicate, if_true, if_false, Bool.false_eq_true, and_true, true_and, implies_true, forall_const, false_implies, cmpI, Bool.not_true, Bool.not_false, Bool.true_and, Bool.false_and, Bool.and_true, Bool.and_false, reduceIte, List.append_nil, reduceCtorEq]
        by_cases h1 : gcd3 a b c = 1
        · simp [h1]
        · have h2 : ((gcd3 a b c : Nat) : Int) ≠ 1 := by omega
          rw [beq_eq_false_iff_ne.2 h2, beq_eq_false_iff_ne.2 h1]

def tr_iFracAdd : Tr :=
  (.evs [.call 0 [(.var 0), (.var 1), (.var 2)] none 1,
    .call 0 [(.var 3), (.var 4), (.var 5)] (some (.not (.not (.var 6)))) 1]
  (.ite (.ite (.not (.var 6)) (.bool true) (.not (.var 7)))
  (.ret [(.int .i64 0), (.int .i64 0), (.int .i64 0), (.bool false)])
  (.evs [.call 1 [(.ar .add .i64 (.ar .mul .i64 (.var 0) (.var 5)) (.ar .mul .i64 (.var 3) (.var 2))), (.ar .add .i64 (.ar .mul .i64 (.var 1) (.var 5)) (.ar .mul .i64 (.var 4) (.var 2))), (.ar .mul .i64 (.var 2) (.var 5))] none 4]
   (.ret [(.var 8), (.var 9), (.var 10), (.var 11)]))))
def Fs_iFracAdd : List Fun1 := [G_iFracValid, G_lowest]
def F_iFracAdd : Fun1 := ofTree Fs_iFracAdd tr_iFracAdd
def G_iFracAdd : Fun1 := ⟨fun _ => True, fun ins => fr4 (addQ (q3 ins 0) (q3 ins 3))⟩
theorem as_iFracAdd (ins : List Value) (ht : TypedL [.int .i64, .int .i64, .int .i64, .int .i64, .int .i64, .int .i64] ins) (_ : G_iFracAdd.pre ins) : F_iFracAdd.pre ins ∧ F_iFracAdd.out ins = G_iFracAdd.out ins := by
  obtain ⟨a, b, c, x, y, z, rfl, _⟩ := ints6 ht
  simp only [F_iFracAdd, G_iFracAdd, tr_iFracAdd, Fs_iFracAdd, G_iFracValid, G_lowest, addQ, validQ, q3, arI, ofTree, okT, okE, evalT, evalE, evsIn, ev, callF, preF, hasF, needs, i0, b0, toI_int, toB_bool, List.getD_cons_zero, List.getD_cons_succ, List.cons_append, List.nil_append, List.replicate, if_true, if_false, Bool.false_eq_true, and_true, true_and, implies_true, forall_const, false_implies, cmpI, Bool.not_true, Bool.not_false, Bool.true_and, Bool.false_and, Bool.and_true, Bool.and_false, reduceIte, List.append_nil, reduceCtorEq]
  cases h : validI a b c
  · simp [h, fr4, zq]
  · cases k : validI x y z
    · simp [h, k, fr4, zq]
    · obtain ⟨e1, e2, e3, e4, e5, e6, e7, e8, e9, l1, l2⟩ := sum_facts h k
      simp only [h, k, e1, e2, e3, e4, e5, e6, e7, ofTree, okT, okE, evalT, evalE, evsIn, ev, callF, preF, hasF, needs, i0, b0, toI_int, toB_bool, List.getD_cons_zero, List.getD_cons_succ, List.cons_append, List.nil_append, List.replicate, if_true, if_false, Bool.false_eq_true, and_true, true_and, implies_true, forall_const, false_implies, cmpI, Bool.not_true, Bool.not_false, Bool.true_and, Bool.false_and, Bool.and_true, Bool.and_false, reduceIte, List.append_nil, reduceCtorEq]
      simp [fr4, l1]

def tr_iFracTimes : Tr :=
  (.evs [.call 0 [(.var 0), (.var 1), (.var 2)] none 1,
    .call 0 [(.var 3), (.var 4), (.var 5)] (some (.not (.not (.var 6)))) 1]
  (.ite (.ite (.not (.var 6)) (.bool true) (.not (.var 7)))
  (.ret [(.int .i64 0), (.int .i64 0), (.int .i64 0), (.bool false)])
  (.evs [.call 1 [(.ar .sub .i64 (.ar .mul .i64 (.var 0) (.var 3)) (.ar .mul .i64 (.var 1) (.var 4))), (.ar .add .i64 (.ar .mul .i64 (.var 0) (.var 4)) (.ar .mul .i64 (.var 1) (.var 3))), (.ar .mul .i64 (.var 2) (.var 5))] none 4]
   (.ret [(.var 8), (.var 9), (.var 10), (.var 11)]))))
def Fs_iFracTimes : List Fun1 := [G_iFracValid, G_lowest]
def F_iFracTimes : Fun1 := ofTree Fs_iFracTimes tr_iFracTimes
def G_iFracTimes : Fun1 := ⟨fun _ => True, fun ins => fr4 (timesQ (q3 ins 0) (q3 ins 3))⟩
theorem as_iFracTimes (ins : List Value) (ht : TypedL [.int .i64, .int .i64, .int .i64, .int .i64, .int .i64, .int .i64] ins) (_ : G_iFracTimes.pre ins) : F_iFracTimes.pre ins ∧ F_iFracTimes.out ins = G_iFracTimes.out ins := by
  obtain ⟨a, b, c, x, y, z, rfl, _⟩ := ints6 ht
  simp only [F_iFracTimes, G_iFracTimes, tr_iFracTimes, Fs_iFracTimes, G_iFracValid, G_lowest, timesQ, validQ, q3, arI, ofTree, okT, okE, evalT, evalE, evsIn, ev, callF, preF, hasF, needs, i0, b0, toI_int, toB_bool, List.getD_cons_zero, List.getD_cons_succ, List.cons_append, List.nil_append, List.replicate, if_true, if_false, Bool.false_eq_true, and_true, true_and, implies_true, forall_const, false_implies, cmpI, Bool.not_true, Bool.not_false, Bool.true_and, Bool.false_and, Bool.and_true, Bool.and_false, reduceIte, List.append_nil, reduceCtorEq]
  cases h : validI a b c
  · simp [h, fr4, zq]
  · cases k : validI x y z
    · simp [h, k, fr4, zq]
    · obtain ⟨e1, e2, e3, e4, e5, e6, e7, l1⟩ := mul_facts h k
      simp only [h, k, e1, e2, e3, e4, e5, e6, e7, ofTree, okT, okE, evalT, evalE, evsIn, ev, callF, preF, hasF, needs, i0, b0, toI_int, toB_bool, List.getD_cons_zero, List.getD_cons_succ, List.cons_append, List.nil_append, List.replicate, if_true, if_false, Bool.false_eq_true, and_true, true_and, implies_true, forall_const, false_implies, cmpI, Bool.not_true, Bool.not_false, Bool.true_and, Bool.false_and, Bool.and_true, Bool.and_false, reduceIte, List.append_nil, reduceCtorEq]
      simp [fr4, l1]

def tr_keep : Tr :=
  (.ite (.not (.var 3))
  (.ret [(.int .i64 0), (.int .i64 0), (.int .i64 0), (.bool true)])
  (.ret [(.var 0), (.var 1), (.var 2), (.var 4)]))
def Fs_keep : List Fun1 := []
def F_keep : Fun1 := ofTree Fs_keep tr_keep

def tr_add : Tr :=
  (.evs [.call 0 [(.var 0), (.var 1), (.var 2), (.var 3), (.var 4), (.var 5)] none 4,
    .call 1 [(.var 7), (.var 8), (.var 9), (.var 10), (.var 6)] none 4]
  (.ret [(.var 11), (.var 12), (.var 13), (.var 14)]))
def Fs_add : List Fun1 := [G_iFracAdd, F_keep]
def F_add : Fun1 := ofTree Fs_add tr_add
def G_add : Fun1 := ⟨fun _ => True, fun ins => fr3 (addQ (q3 ins 0) (q3 ins 3)) ++ [.bool (b0 ins 6 || !(addQ (q3 ins 0) (q3 ins 3)).isSome)]⟩
theorem as_add (ins : List Value) (ht : TypedL [.int .i64, .int .i64, .int .i64, .int .i64, .int .i64, .int .i64, .bool] ins) (_ : G_add.pre ins) : F_add.pre ins ∧ F_add.out ins = G_add.out ins := by
  obtain ⟨a, r1, rfl, _, ht1⟩ := int_cons ht
  obtain ⟨b, r2, rfl, _, ht2⟩ := int_cons ht1
  obtain ⟨c, r3, rfl, _, ht3⟩ := int_cons ht2
  obtain ⟨x, r4, rfl, _, ht4⟩ := int_cons ht3
  obtain ⟨y, r5, rfl, _, ht5⟩ := int_cons ht4
  obtain ⟨z, r6, rfl, _, ht6⟩ := int_cons ht5
  obtain ⟨t, r7, rfl, ht7⟩ := bool_cons ht6
  obtain rfl := ints0 ht7
  simp only [F_add, G_add, tr_add, Fs_add, G_iFracAdd, F_keep, tr_keep, Fs_keep, q3, fr4, fr3, ofTree, okT, okE, evalT, evalE, evsIn, ev, callF, preF, hasF, needs, i0, b0, toI_int, toB_bool, List.getD_cons_zero, List.getD_cons_succ, List.cons_append, List.nil_append, List.replicate, if_true, if_false, Bool.false_eq_true, and_true, true_and, implies_true, forall_const, false_implies, cmpI, Bool.not_true, Bool.not_false, Bool.true_and, Bool.false_and, Bool.and_true, Bool.and_false, reduceIte, List.append_nil, reduceCtorEq]
  cases h : addQ (a, b, c) (x, y, z) <;> simp [zq]

def tr_times : Tr :=
  (.evs [.call 0 [(.var 0), (.var 1), (.var 2), (.var 3), (.var 4), (.var 5)] none 4,
    .call 1 [(.var 7), (.var 8), (.var 9), (.var 10), (.var 6)] none 4]
  (.ret [(.var 11), (.var 12), (.var 13), (.var 14)]))
def Fs_times : List Fun1 := [G_iFracTimes, F_keep]
def F_times : Fun1 := ofTree Fs_times tr_times
def G_times : Fun1 := ⟨fun _ => True, fun ins => fr3 (timesQ (q3 ins 0) (q3 ins 3)) ++ [.bool (b0 ins 6 || !(timesQ (q3 ins 0) (q3 ins 3)).isSome)]⟩
theorem as_times (ins : List Value) (ht : TypedL [.int .i64, .int .i64, .int .i64, .int .i64, .int .i64, .int .i64, .bool] ins) (_ : G_times.pre ins) : F_times.pre ins ∧ F_times.out ins = G_times.out ins := by
  obtain ⟨a, r1, rfl, _, ht1⟩ := int_cons ht
  obtain ⟨b, r2, rfl, _, ht2⟩ := int_cons ht1
  obtain ⟨c, r3, rfl, _, ht3⟩ := int_cons ht2
  obtain ⟨x, r4, rfl, _, ht4⟩ := int_cons ht3
  obtain ⟨y, r5, rfl, _, ht5⟩ := int_cons ht4
  obtain ⟨z, r6, rfl, _, ht6⟩ := int_cons ht5
  obtain ⟨t, r7, rfl, ht7⟩ := bool_cons ht6
  obtain rfl := ints0 ht7
  simp only [F_times, G_times, tr_times, Fs_times, G_iFracTimes, F_keep, tr_keep, Fs_keep, q3, fr4, fr3, ofTree, okT, okE, evalT, evalE, evsIn, ev, callF, preF, hasF, needs, i0, b0, toI_int, toB_bool, List.getD_cons_zero, List.getD_cons_succ, List.cons_append, List.nil_append, List.replicate, if_true, if_false, Bool.false_eq_true, and_true, true_and, implies_true, forall_const, false_implies, cmpI, Bool.not_true, Bool.not_false, Bool.true_and, Bool.false_and, Bool.and_true, Bool.and_false, reduceIte, List.append_nil, reduceCtorEq]
  cases h : timesQ (a, b, c) (x, y, z) <;> simp [zq]

def tr_need : Tr :=
  (.ite (.not (.var 0))
  (.ret [(.bool true)])
  (.ret [(.var 1)]))
def Fs_need : List Fun1 := []
def F_need : Fun1 := ofTree Fs_need tr_need
def G_need : Fun1 := ⟨fun _ => True, fun ins => [.bool (b0 ins 1 || !b0 ins 0)]⟩
theorem as_need (ins : List Value) (ht : TypedL [.bool, .bool] ins) (_ : G_need.pre ins) : F_need.pre ins ∧ F_need.out ins = G_need.out ins := by
  obtain ⟨s, r1, rfl, ht1⟩ := bool_cons ht
  obtain ⟨t, r2, rfl, ht2⟩ := bool_cons ht1
  obtain rfl := ints0 ht2
  simp only [F_need, G_need, tr_need, Fs_need, ofTree, okT, okE, evalT, evalE, evsIn, ev, callF, preF, hasF, needs, i0, b0, toI_int, toB_bool, List.getD_cons_zero, List.getD_cons_succ, List.cons_append, List.nil_append, List.replicate, if_true, if_false, Bool.false_eq_true, and_true, true_and, implies_true, forall_const, false_implies, cmpI, Bool.not_true, Bool.not_false, Bool.true_and, Bool.false_and, Bool.and_true, Bool.and_false, reduceIte, List.append_nil, reduceCtorEq]
  cases s <;> cases t <;> simp

def tr_iMatValid : Tr :=
  (.evs [.call 0 [(.var 0), (.var 1), (.var 2)] none 1]
  (.ite (.not (.var 12))
  (.ret [(.bool false)])
  (.evs [.call 0 [(.var 3), (.var 4), (.var 5)] none 1]
   (.ite (.not (.var 13))
   (.ret [(.bool false)])
   (.evs [.call 0 [(.var 6), (.var 7), (.var 8)] none 1]
    (.ite (.not (.var 14))
    (.ret [(.bool false)])
    (.evs [.call 0 [(.var 9), (.var 10), (.var 11)] none 1]
     (.ite (.not (.var 15))
     (.ret [(.bool false)])
     (.ret [(.bool true)])))))))))
def Fs_iMatValid : List Fun1 := [G_iFracValid]
def F_iMatValid : Fun1 := ofTree Fs_iMatValid tr_iMatValid
def G_iMatValid : Fun1 := ⟨fun _ => True, fun ins => [.bool (matQ fun k => q3 ins (3 * k))]⟩
theorem out_iMatValid : (fun (g : Nat → Int) => F_iMatValid.out (ivs g 0 12)) = fun g => nestC (fun k => .bool (!validQ (q3 (ivs g 0 12) (3 * k)))) 0 4 := by kernel_rfl
theorem as_iMatValid (ins : List Value) (ht : TypedL (intTs 12 ++ []) ins) (_ : G_iMatValid.pre ins) : F_iMatValid.pre ins ∧ F_iMatValid.out ins = G_iMatValid.out ins := by
  obtain ⟨g, r, rfl, h1, _⟩ := ints_lit 12 0 ht
  obtain rfl := ints0 h1
  rw [List.append_nil]
  refine ⟨okT_free (by intro F hF ins; simp only [Fs_iMatValid, List.mem_singleton] at hF; rw [hF]; trivial) _ _ (by kernel_rfl), (congrFun out_iMatValid g).trans ?_⟩
  exact nestC_eq (fun k => rfl) 4 0

def tr_iFracLess : Tr :=
  (.evs [.call 0 [(.var 0), (.var 1), (.var 2)] none 1,
    .call 0 [(.var 3), (.var 4), (.var 5)] (some (.not (.not (.var 6)))) 1]
  (.ite (.ite (.not (.var 6)) (.bool true) (.not (.var 7)))
  (.ret [(.int .i64 0), (.int .i64 0), (.int .i64 0), (.bool false)])
  (.evs [.call 1 [(.ar .sub .i64 (.ar .mul .i64 (.var 0) (.var 5)) (.ar .mul .i64 (.var 3) (.var 2))), (.ar .sub .i64 (.ar .mul .i64 (.var 1) (.var 5)) (.ar .mul .i64 (.var 4) (.var 2))), (.ar .mul .i64 (.var 2) (.var 5))] none 4]
   (.ret [(.var 8), (.var 9), (.var 10), (.var 11)]))))
def Fs_iFracLess : List Fun1 := [G_iFracValid, G_lowest]
def F_iFracLess : Fun1 := ofTree Fs_iFracLess tr_iFracLess
def G_iFracLess : Fun1 := ⟨fun _ => True, fun ins => fr4 (lessQ (q3 ins 0) (q3 ins 3))⟩
theorem as_iFracLess (ins : List Value) (ht : TypedL [.int .i64, .int .i64, .int .i64, .int .i64, .int .i64, .int .i64] ins) (_ : G_iFracLess.pre ins) : F_iFracLess.pre ins ∧ F_iFracLess.out ins = G_iFracLess.out ins := by
  obtain ⟨a, b, c, x, y, z, rfl, _⟩ := ints6 ht
  simp only [F_iFracLess, G_iFracLess, tr_iFracLess, Fs_iFracLess, G_iFracValid, G_lowest, lessQ, validQ, q3, arI, ofTree, okT, okE, evalT, evalE, evsIn, ev, callF, preF, hasF, needs, i0, b0, toI_int, toB_bool, List.getD_cons_zero, List.getD_cons_succ, List.cons_append, List.nil_append, List.replicate, if_true, if_false, Bool.false_eq_true, and_true, true_and, implies_true, forall_const, false_implies, cmpI, Bool.not_true, Bool.not_false, Bool.true_and, Bool.false_and, Bool.and_true, Bool.and_false, reduceIte, List.append_nil, reduceCtorEq]
  cases h : validI a b c
  · simp [h, fr4, zq]
  · cases k : validI x y z
    · simp [h, k, fr4, zq]
    · obtain ⟨e1, e2, e3, e4, e5, e6, e7, e8, e9, l1, l2⟩ := sum_facts h k
      simp only [h, k, e1, e2, e3, e4, e5, e8, e9, ofTree, okT, okE, evalT, evalE, evsIn, ev, callF, preF, hasF, needs, i0, b0, toI_int, toB_bool, List.getD_cons_zero, List.getD_cons_succ, List.cons_append, List.nil_append, List.replicate, if_true, if_false, Bool.false_eq_true, and_true, true_and, implies_true, forall_const, false_implies, cmpI, Bool.not_true, Bool.not_false, Bool.true_and, Bool.false_and, Bool.and_true, Bool.and_false, reduceIte, List.append_nil, reduceCtorEq]
      simp [fr4, l2]

def tr_less : Tr :=
  (.evs [.call 0 [(.var 0), (.var 1), (.var 2), (.var 3), (.var 4), (.var 5)] none 4,
    .call 1 [(.var 7), (.var 8), (.var 9), (.var 10), (.var 6)] none 4]
  (.ret [(.var 11), (.var 12), (.var 13), (.var 14)]))
def Fs_less : List Fun1 := [G_iFracLess, F_keep]
def F_less : Fun1 := ofTree Fs_less tr_less
def G_less : Fun1 := ⟨fun _ => True, fun ins => fr3 (lessQ (q3 ins 0) (q3 ins 3)) ++ [.bool (b0 ins 6 || !(lessQ (q3 ins 0) (q3 ins 3)).isSome)]⟩
theorem as_less (ins : List Value) (ht : TypedL [.int .i64, .int .i64, .int .i64, .int .i64, .int .i64, .int .i64, .bool] ins) (_ : G_less.pre ins) : F_less.pre ins ∧ F_less.out ins = G_less.out ins := by
  obtain ⟨a, r1, rfl, _, ht1⟩ := int_cons ht
  obtain ⟨b, r2, rfl, _, ht2⟩ := int_cons ht1
  obtain ⟨c, r3, rfl, _, ht3⟩ := int_cons ht2
  obtain ⟨x, r4, rfl, _, ht4⟩ := int_cons ht3
  obtain ⟨y, r5, rfl, _, ht5⟩ := int_cons ht4
  obtain ⟨z, r6, rfl, _, ht6⟩ := int_cons ht5
  obtain ⟨t, r7, rfl, ht7⟩ := bool_cons ht6
  obtain rfl := ints0 ht7
  simp only [F_less, G_less, tr_less, Fs_less, G_iFracLess, F_keep, tr_keep, Fs_keep, q3, fr4, fr3, ofTree, okT, okE, evalT, evalE, evsIn, ev, callF, preF, hasF, needs, i0, b0, toI_int, toB_bool, List.getD_cons_zero, List.getD_cons_succ, List.cons_append, List.nil_append, List.replicate, if_true, if_false, Bool.false_eq_true, and_true, true_and, implies_true, forall_const, false_implies, cmpI, Bool.not_true, Bool.not_false, Bool.true_and, Bool.false_and, Bool.and_true, Bool.and_false, reduceIte, List.append_nil, reduceCtorEq]
  cases h : lessQ (a, b, c) (x, y, z) <;> simp [zq]

def tr_indexOk : Tr :=
  (.evs [.call 0 [(.var 0), (.var 1), (.var 2)] none 1]
  (.ret [(.ite (.var 3) (.not (.ite (.cmp .eql (.var 0) (.int .i64 0)) (.ite (.cmp .eql (.var 1) (.int .i64 0)) (.cmp .eql (.var 2) (.int .i64 1)) (.bool false)) (.bool false))) (.bool false))]))
def Fs_indexOk : List Fun1 := [G_iFracValid]
def F_indexOk : Fun1 := ofTree Fs_indexOk tr_indexOk
def G_indexOk : Fun1 := ⟨fun _ => True, fun ins => [.bool (idxQ (q3 ins 0))]⟩
theorem as_indexOk (ins : List Value) (ht : TypedL [.int .i64, .int .i64, .int .i64] ins) (_ : G_indexOk.pre ins) : F_indexOk.pre ins ∧ F_indexOk.out ins = G_indexOk.out ins := by
  obtain ⟨a, b, c, rfl, _⟩ := ints3 ht
  simp only [F_indexOk, G_indexOk, tr_indexOk, Fs_indexOk, G_iFracValid, idxQ, validQ, q3, ofTree, okT, okE, evalT, evalE, evsIn, ev, callF, preF, hasF, needs, i0, b0, toI_int, toB_bool, List.getD_cons_zero, List.getD_cons_succ, List.cons_append, List.nil_append, List.replicate, if_true, if_false, Bool.false_eq_true, and_true, true_and, implies_true, forall_const, false_implies, cmpI, Bool.not_true, Bool.not_false, Bool.true_and, Bool.false_and, Bool.and_true, Bool.and_false, reduceIte, List.append_nil, reduceCtorEq]
  cases h : validI a b c
  · simp
  · by_cases ha : a = 0
    · by_cases hb : b = 0
      · subst ha; subst hb
        simp [nil_den h]
      · simp [ha, hb]
    · simp [ha]

def tr_iFilmValid : Tr :=
  (.lp 0 [(.int .i64 0)] [.int .i64]
  (.ite (.cmp .lss (.var 2) (.len (.var 0)))
   (.evs [.need [(.inb (.var 1) (.var 2) 4)]]
    (.evs [.call 0 [(.sel (.var 1) (.var 2) 4 0), (.sel (.var 1) (.var 2) 4 1), (.sel (.var 1) (.var 2) 4 2)] none 1,
      .call 1 [(.sel (.var 1) (.var 2) 4 3), (.int .i64 0), (.int .i64 3)] (some (.not (.not (.var 3)))) 1]
    (.ite (.ite (.not (.var 3)) (.bool true) (.not (.var 4)))
    (.ret [(.bool false)])
    (.next 0 [(.ar .add .i64 (.var 2) (.int .i64 1))]))))
   (.ret [(.cmp .leq (.len (.var 0)) (.int .i64 8))])))
def Fs_iFilmValid : List Fun1 := [G_indexOk, G_within]
def layP (c : Value) (k : Nat) : Bool := idxQ (rq c k 0, rq c k 1, rq c k 2) && inRg (rq c k 3) 0 3
def F_iFilmValid : Fun1 := ⟨fun ins => Fit4 (ins.getD 0 undef) (ins.getD 1 undef), fun ins => [.bool (allB (layP (ins.getD 1 undef)) 0 (rlen (ins.getD 0 undef)) && decide (lenV (ins.getD 0 undef) ≤ 8))]⟩
theorem sat_iFilmValid (P : Program) (ins : List Value) (K : List Value → Prop) (ht : TypedL [.sl, .row .i64 4] ins) (hp : F_iFilmValid.pre ins) (hK : K (F_iFilmValid.out ins)) : sat P (specsOf Fs_iFilmValid) tr_iFilmValid ins [] K := by
  obtain ⟨x, c, rfl, hx, hcT⟩ := two_of ht
  obtain ⟨a, n, cap, rfl, hc, hn⟩ : Fit4 x c := hp
  refine ⟨fun vs => ∃ k : Nat, vs = [.int .i64 k] ∧ k ≤ n ∧ allB (layP c) 0 k = true, fun vs => n - (toI (vs.getD 0 undef)).toNat, ⟨0, rfl, Nat.zero_le _, rfl⟩, ?_⟩
  rintro vs hty ⟨k, rfl, hk, hall⟩
  refine ⟨fun h => ?_, fun h => ?_⟩
  · have hlt : k < n := by
      have : decide ((k : Int) < (n : Int)) = true := Value.bool.inj h
      simpa using this
    have hin := inb_ok hc hlt
    refine ⟨fun e he => by rw [List.mem_singleton.1 he]; exact hin, trivial, ?_⟩
    show evSat P _ _ ([Value.slice a n cap, c, .int .i64 k] ++ [.bool (idxQ (rq c k 0, rq c k 1, rq c k 2))]) _
    have bad : layP c k = false → K [.bool false] := fun hs => by
      have e : F_iFilmValid.out [.slice a n cap, c] = [.bool false] := by
        show [Value.bool (allB (layP c) 0 n && _)] = _
        rw [allB_not hlt hs, Bool.false_and]
      rw [e] at hK
      exact hK
    have hlay : layP c k = (idxQ (rq c k 0, rq c k 1, rq c k 2) && inRg (rq c k 3) 0 3) := rfl
    cases hi : idxQ (rq c k 0, rq c k 1, rq c k 2) with
    | false => exact ⟨fun h2 => (by cases h2), fun _ => ⟨fun _ => bad (by rw [hlay, hi]; rfl), fun h2 => (by cases h2)⟩⟩
    | true =>
      refine ⟨fun _ => ⟨trivial, ?_⟩, fun h2 => (by cases h2)⟩
      show sat P _ _ ([Value.slice a n cap, c, .int .i64 k, .bool true] ++ [.bool (inRg (rq c k 3) 0 3)]) _ K
      cases h3 : inRg (rq c k 3) 0 3 with
      | false => exact ⟨fun _ => bad (by rw [hlay, hi, h3]; rfl), fun h2 => (by cases h2)⟩
      | true =>
        have hs : layP c k = true := by rw [hlay, hi, h3]; rfl
        refine ⟨fun h2 => (by cases h2), fun _ => ?_⟩
        · refine ⟨⟨k + 1, congrArg (fun z => [Value.int .i64 z]) (wrap_next hlt hn), by omega, ?_⟩, ?_⟩
          · rw [allB_snoc, hall, Nat.zero_add]; exact hs
          · show n - (toI (.int .i64 (IntKind.i64.wrap ((k : Int) + 1)))).toNat < n - (toI (.int .i64 (k : Int))).toNat
            rw [wrap_next hlt hn]
            simp only [toI_int, Int.toNat_natCast]
            omega
  · have hge : ¬ k < n := by
      have : decide ((k : Int) < (n : Int)) = false := Value.bool.inj h
      simpa using this
    have hkn : k = n := by omega
    subst hkn
    have e : F_iFilmValid.out [.slice a k cap, c] = [.bool (decide ((k : Int) ≤ 8))] := by
      show [Value.bool (allB (layP c) 0 k && decide ((k : Int) ≤ 8))] = _
      rw [hall, Bool.true_and]
    rw [e] at hK
    exact hK

def tr_sFilmValid : Tr :=
  (.lp 0 [(.int .i64 0)] [.int .i64]
  (.ite (.cmp .lss (.var 2) (.len (.var 0)))
   (.evs [.need [(.inb (.var 1) (.var 2) 4)]]
    (.evs [.call 0 [(.sel (.var 1) (.var 2) 4 0), (.sel (.var 1) (.var 2) 4 1), (.sel (.var 1) (.var 2) 4 2)] none 1,
      .need [(.ite (.not (.ite (.not (.var 3)) (.bool true) (.ite (.cmp .eql (.sel (.var 1) (.var 2) 4 0) (.int .i64 0)) (.cmp .eql (.sel (.var 1) (.var 2) 4 1) (.int .i64 0)) (.bool false)))) (.inb (.var 1) (.var 2) 4) (.bool true))],
      .call 1 [(.sel (.var 1) (.var 2) 4 3), (.int .i64 0), (.int .i64 3)] (some (.not (.ite (.not (.var 3)) (.bool true) (.ite (.cmp .eql (.sel (.var 1) (.var 2) 4 0) (.int .i64 0)) (.cmp .eql (.sel (.var 1) (.var 2) 4 1) (.int .i64 0)) (.bool false))))) 1]
    (.ite (.ite (.ite (.not (.var 3)) (.bool true) (.ite (.cmp .eql (.sel (.var 1) (.var 2) 4 0) (.int .i64 0)) (.cmp .eql (.sel (.var 1) (.var 2) 4 1) (.int .i64 0)) (.bool false))) (.bool true) (.not (.var 4)))
    (.ret [(.bool false)])
    (.next 0 [(.ar .add .i64 (.var 2) (.int .i64 1))]))))
   (.ret [(.cmp .leq (.len (.var 0)) (.int .i64 8))])))
def Fs_sFilmValid : List Fun1 := [G_sFracValid, G_l6In]
def F_sFilmValid : Fun1 := F_iFilmValid
theorem sat_sFilmValid (P : Program) (ins : List Value) (K : List Value → Prop) (ht : TypedL [.sl, .row .i64 4] ins) (hp : F_sFilmValid.pre ins) (hK : K (F_sFilmValid.out ins)) : sat P (specsOf Fs_sFilmValid) tr_sFilmValid ins [] K := by
  obtain ⟨x, c, rfl, hx, hcT⟩ := two_of ht
  obtain ⟨a, n, cap, rfl, hc, hn⟩ : Fit4 x c := hp
  refine ⟨fun vs => ∃ k : Nat, vs = [.int .i64 k] ∧ k ≤ n ∧ allB (layP c) 0 k = true, fun vs => n - (toI (vs.getD 0 undef)).toNat, ⟨0, rfl, Nat.zero_le _, rfl⟩, ?_⟩
  rintro vs hty ⟨k, rfl, hk, hall⟩
  refine ⟨fun h => ?_, fun h => ?_⟩
  · have hlt : k < n := by
      have : decide ((k : Int) < (n : Int)) = true := Value.bool.inj h
      simpa using this
    have hin := inb_ok hc hlt
    refine ⟨fun e he => by rw [List.mem_singleton.1 he]; exact hin, trivial, ?_⟩
    show evSat P _ _ ([Value.slice a n cap, c, .int .i64 k] ++ [.bool (validQ (rq c k 0, rq c k 1, rq c k 2))]) _
    have bad : layP c k = false → K [.bool false] := fun hs => by
      have e : F_sFilmValid.out [.slice a n cap, c] = [.bool false] := by
        show [Value.bool (allB (layP c) 0 n && _)] = _
        rw [allB_not hlt hs, Bool.false_and]
      rw [e] at hK
      exact hK
    have hlay : layP c k = (idxQ (rq c k 0, rq c k 1, rq c k 2) && inRg (rq c k 3) 0 3) := rfl
    have hidx : idxQ (rq c k 0, rq c k 1, rq c k 2) = (validQ (rq c k 0, rq c k 1, rq c k 2) && !(rq c k 0 == 0 && rq c k 1 == 0)) := rfl
    cases hv : validQ (rq c k 0, rq c k 1, rq c k 2) with
    | false =>
      refine ⟨fun e he => by rw [List.mem_singleton.1 he]; rfl, ⟨fun h2 => (by cases h2), fun _ => ?_⟩⟩
      exact ⟨fun _ => bad (by rw [hlay, hidx, hv]; rfl), fun h2 => (by cases h2)⟩
    | true =>
      refine ⟨fun e he => ?_, ⟨fun h2 => ⟨trivial, ?_⟩, fun h2 => ?_⟩⟩
      · rw [List.mem_singleton.1 he]
        show (if (!andB (rq c k 0 == 0) (rq c k 1 == 0)) = true then _ else Value.bool true) = _
        split
        · exact hin
        · rfl
      · have h2 : (!andB (rq c k 0 == 0) (rq c k 1 == 0)) = true := h2
        rw [andB_eq] at h2
        have hz : (rq c k 0 == 0 && rq c k 1 == 0) = false := by
          cases hq : (rq c k 0 == 0 && rq c k 1 == 0) with
          | false => rfl
          | true => rw [hq] at h2; cases h2
        have hi : idxQ (rq c k 0, rq c k 1, rq c k 2) = true := by rw [hidx, hv, hz]; rfl
        show sat P _ _ ([Value.slice a n cap, c, .int .i64 k, .bool true] ++ [.bool (inRg (rq c k 3) 0 3)]) _ K
        have hc2 : ∀ x : Bool, toB (ev ([Value.slice a n cap, c, .int .i64 k, .bool true] ++ [.bool x]) (.ite (.ite (.not (.var 3)) (.bool true) (.ite (.cmp .eql (.sel (.var 1) (.var 2) 4 0) (.int .i64 0)) (.cmp .eql (.sel (.var 1) (.var 2) 4 1) (.int .i64 0)) (.bool false))) (.bool true) (.not (.var 4)))) = !x := fun x => by
          show toB (if andB (rq c k 0 == 0) (rq c k 1 == 0) = true then Value.bool true else .bool (!x)) = !x
          rw [andB_eq, hz]
          rfl
        cases h3 : inRg (rq c k 3) 0 3 with
        | false =>
          refine ⟨fun _ => bad (by rw [hlay, hi, h3]; rfl), fun h4 => ?_⟩
          have := hc2 false
          rw [h4] at this
          cases this
        | true =>
          have hs : layP c k = true := by rw [hlay, hi, h3]; rfl
          refine ⟨fun h4 => ?_, fun _ => ?_⟩
          · have := hc2 true
            rw [h4] at this
            cases this
          · refine ⟨⟨k + 1, congrArg (fun z => [Value.int .i64 z]) (wrap_next hlt hn), by omega, ?_⟩, ?_⟩
            · rw [allB_snoc, hall, Nat.zero_add]; exact hs
            · show n - (toI (.int .i64 (IntKind.i64.wrap ((k : Int) + 1)))).toNat < n - (toI (.int .i64 (k : Int))).toNat
              rw [wrap_next hlt hn]
              simp only [toI_int, Int.toNat_natCast]
              omega
      · have h2 : (!andB (rq c k 0 == 0) (rq c k 1 == 0)) = false := h2
        rw [andB_eq] at h2
        have hz : (rq c k 0 == 0 && rq c k 1 == 0) = true := by
          cases hq : (rq c k 0 == 0 && rq c k 1 == 0) with
          | true => rfl
          | false => rw [hq] at h2; cases h2
        refine ⟨fun _ => bad (by rw [hlay, hidx, hv, hz]; rfl), fun h4 => ?_⟩
        exfalso
        have h4 : toB (if andB (rq c k 0 == 0) (rq c k 1 == 0) = true then Value.bool true else .bool (!toB undef)) = false := congrArg toB h4
        rw [andB_eq, hz] at h4
        cases h4
  · have hge : ¬ k < n := by
      have : decide ((k : Int) < (n : Int)) = false := Value.bool.inj h
      simpa using this
    have hkn : k = n := by omega
    subst hkn
    have e : F_sFilmValid.out [.slice a k cap, c] = [.bool (decide ((k : Int) ≤ 8))] := by
      show [Value.bool (allB (layP c) 0 k && decide ((k : Int) ≤ 8))] = _
      rw [hall, Bool.true_and]
    rw [e] at hK
    exact hK

def tr_mcell00 : Tr :=
  (.evs [.call 0 [(.var 0), (.var 1), (.var 2), (.var 12), (.var 13), (.var 14), (.var 24)] none 4,
    .call 0 [(.var 3), (.var 4), (.var 5), (.var 18), (.var 19), (.var 20), (.var 28)] none 4,
    .call 1 [(.var 25), (.var 26), (.var 27), (.var 29), (.var 30), (.var 31), (.var 32)] none 4]
  (.ret [(.var 33), (.var 34), (.var 35), (.var 0), (.var 1), (.var 2), (.var 3), (.var 4), (.var 5), (.var 6), (.var 7), (.var 8), (.var 9), (.var 10), (.var 11), (.var 12), (.var 13), (.var 14), (.var 15), (.var 16), (.var 17), (.var 18), (.var 19), (.var 20), (.var 21), (.var 22), (.var 23), (.var 36)]))
def Fs_mcell00 : List Fun1 := [G_times, G_add]
def F_mcell00 : Fun1 := ofTree Fs_mcell00 tr_mcell00
def G_mcell00 : Fun1 := ⟨fun _ => True, fun ins => fl3 [(mixI (b0 ins 24) (q3 ins 0) (q3 ins 12) (q3 ins 3) (q3 ins 18)).1] ++ (copyV ins 0 24 ++ [.bool (mixI (b0 ins 24) (q3 ins 0) (q3 ins 12) (q3 ins 3) (q3 ins 18)).2])⟩
theorem out_mcell00 : (fun (g : Nat → Int) (s : Bool) => F_mcell00.out (ivs g 0 24 ++ [.bool s])) = fun g s => G_mcell00.out (ivs g 0 24 ++ [.bool s]) := by kernel_rfl
theorem as_mcell00 (ins : List Value) (ht : TypedL (intTs 24 ++ [.bool]) ins) (_ : G_mcell00.pre ins) : F_mcell00.pre ins ∧ F_mcell00.out ins = G_mcell00.out ins := by
  obtain ⟨g, r, rfl, h1, _⟩ := ints_lit 24 0 ht
  obtain ⟨s, r2, rfl, h2⟩ := bool_cons h1
  obtain rfl := ints0 h2
  exact ⟨okT_free (by intro F hF ins; simp only [Fs_mcell00, List.mem_cons, List.not_mem_nil, or_false] at hF; rcases hF with rfl | rfl <;> trivial) _ _ (by kernel_rfl), congrFun (congrFun out_mcell00 g) s⟩

def tr_mcell01 : Tr :=
  (.evs [.call 0 [(.var 0), (.var 1), (.var 2), (.var 15), (.var 16), (.var 17), (.var 24)] none 4,
    .call 0 [(.var 3), (.var 4), (.var 5), (.var 21), (.var 22), (.var 23), (.var 28)] none 4,
    .call 1 [(.var 25), (.var 26), (.var 27), (.var 29), (.var 30), (.var 31), (.var 32)] none 4]
  (.ret [(.var 33), (.var 34), (.var 35), (.var 0), (.var 1), (.var 2), (.var 3), (.var 4), (.var 5), (.var 6), (.var 7), (.var 8), (.var 9), (.var 10), (.var 11), (.var 12), (.var 13), (.var 14), (.var 15), (.var 16), (.var 17), (.var 18), (.var 19), (.var 20), (.var 21), (.var 22), (.var 23), (.var 36)]))
def Fs_mcell01 : List Fun1 := [G_times, G_add]
def F_mcell01 : Fun1 := ofTree Fs_mcell01 tr_mcell01
def G_mcell01 : Fun1 := ⟨fun _ => True, fun ins => fl3 [(mixI (b0 ins 24) (q3 ins 0) (q3 ins 15) (q3 ins 3) (q3 ins 21)).1] ++ (copyV ins 0 24 ++ [.bool (mixI (b0 ins 24) (q3 ins 0) (q3 ins 15) (q3 ins 3) (q3 ins 21)).2])⟩
theorem out_mcell01 : (fun (g : Nat → Int) (s : Bool) => F_mcell01.out (ivs g 0 24 ++ [.bool s])) = fun g s => G_mcell01.out (ivs g 0 24 ++ [.bool s]) := by kernel_rfl
theorem as_mcell01 (ins : List Value) (ht : TypedL (intTs 24 ++ [.bool]) ins) (_ : G_mcell01.pre ins) : F_mcell01.pre ins ∧ F_mcell01.out ins = G_mcell01.out ins := by
  obtain ⟨g, r, rfl, h1, _⟩ := ints_lit 24 0 ht
  obtain ⟨s, r2, rfl, h2⟩ := bool_cons h1
  obtain rfl := ints0 h2
  exact ⟨okT_free (by intro F hF ins; simp only [Fs_mcell01, List.mem_cons, List.not_mem_nil, or_false] at hF; rcases hF with rfl | rfl <;> trivial) _ _ (by kernel_rfl), congrFun (congrFun out_mcell01 g) s⟩

def tr_mcell10 : Tr :=
  (.evs [.call 0 [(.var 6), (.var 7), (.var 8), (.var 12), (.var 13), (.var 14), (.var 24)] none 4,
    .call 0 [(.var 9), (.var 10), (.var 11), (.var 18), (.var 19), (.var 20), (.var 28)] none 4,
    .call 1 [(.var 25), (.var 26), (.var 27), (.var 29), (.var 30), (.var 31), (.var 32)] none 4]
  (.ret [(.var 33), (.var 34), (.var 35), (.var 0), (.var 1), (.var 2), (.var 3), (.var 4), (.var 5), (.var 6), (.var 7), (.var 8), (.var 9), (.var 10), (.var 11), (.var 12), (.var 13), (.var 14), (.var 15), (.var 16), (.var 17), (.var 18), (.var 19), (.var 20), (.var 21), (.var 22), (.var 23), (.var 36)]))
def Fs_mcell10 : List Fun1 := [G_times, G_add]
def F_mcell10 : Fun1 := ofTree Fs_mcell10 tr_mcell10
def G_mcell10 : Fun1 := ⟨fun _ => True, fun ins => fl3 [(mixI (b0 ins 24) (q3 ins 6) (q3 ins 12) (q3 ins 9) (q3 ins 18)).1] ++ (copyV ins 0 24 ++ [.bool (mixI (b0 ins 24) (q3 ins 6) (q3 ins 12) (q3 ins 9) (q3 ins 18)).2])⟩
theorem out_mcell10 : (fun (g : Nat → Int) (s : Bool) => F_mcell10.out (ivs g 0 24 ++ [.bool s])) = fun g s => G_mcell10.out (ivs g 0 24 ++ [.bool s]) := by kernel_rfl
theorem as_mcell10 (ins : List Value) (ht : TypedL (intTs 24 ++ [.bool]) ins) (_ : G_mcell10.pre ins) : F_mcell10.pre ins ∧ F_mcell10.out ins = G_mcell10.out ins := by
  obtain ⟨g, r, rfl, h1, _⟩ := ints_lit 24 0 ht
  obtain ⟨s, r2, rfl, h2⟩ := bool_cons h1
  obtain rfl := ints0 h2
  exact ⟨okT_free (by intro F hF ins; simp only [Fs_mcell10, List.mem_cons, List.not_mem_nil, or_false] at hF; rcases hF with rfl | rfl <;> trivial) _ _ (by kernel_rfl), congrFun (congrFun out_mcell10 g) s⟩

def tr_mcell11 : Tr :=
  (.evs [.call 0 [(.var 6), (.var 7), (.var 8), (.var 15), (.var 16), (.var 17), (.var 24)] none 4,
    .call 0 [(.var 9), (.var 10), (.var 11), (.var 21), (.var 22), (.var 23), (.var 28)] none 4,
    .call 1 [(.var 25), (.var 26), (.var 27), (.var 29), (.var 30), (.var 31), (.var 32)] none 4]
  (.ret [(.var 33), (.var 34), (.var 35), (.var 0), (.var 1), (.var 2), (.var 3), (.var 4), (.var 5), (.var 6), (.var 7), (.var 8), (.var 9), (.var 10), (.var 11), (.var 12), (.var 13), (.var 14), (.var 15), (.var 16), (.var 17), (.var 18), (.var 19), (.var 20), (.var 21), (.var 22), (.var 23), (.var 36)]))
def Fs_mcell11 : List Fun1 := [G_times, G_add]
def F_mcell11 : Fun1 := ofTree Fs_mcell11 tr_mcell11
def G_mcell11 : Fun1 := ⟨fun _ => True, fun ins => fl3 [(mixI (b0 ins 24) (q3 ins 6) (q3 ins 15) (q3 ins 9) (q3 ins 21)).1] ++ (copyV ins 0 24 ++ [.bool (mixI (b0 ins 24) (q3 ins 6) (q3 ins 15) (q3 ins 9) (q3 ins 21)).2])⟩
theorem out_mcell11 : (fun (g : Nat → Int) (s : Bool) => F_mcell11.out (ivs g 0 24 ++ [.bool s])) = fun g s => G_mcell11.out (ivs g 0 24 ++ [.bool s]) := by kernel_rfl
theorem as_mcell11 (ins : List Value) (ht : TypedL (intTs 24 ++ [.bool]) ins) (_ : G_mcell11.pre ins) : F_mcell11.pre ins ∧ F_mcell11.out ins = G_mcell11.out ins := by
  obtain ⟨g, r, rfl, h1, _⟩ := ints_lit 24 0 ht
  obtain ⟨s, r2, rfl, h2⟩ := bool_cons h1
  obtain rfl := ints0 h2
  exact ⟨okT_free (by intro F hF ins; simp only [Fs_mcell11, List.mem_cons, List.not_mem_nil, or_false] at hF; rcases hF with rfl | rfl <;> trivial) _ _ (by kernel_rfl), congrFun (congrFun out_mcell11 g) s⟩

def tr_gotMat : Tr :=
  (.ite (.var 12)
  (.ret [(.int .i64 0), (.int .i64 0), (.int .i64 0), (.int .i64 0), (.int .i64 0), (.int .i64 0), (.int .i64 0), (.int .i64 0), (.int .i64 0), (.int .i64 0), (.int .i64 0), (.int .i64 0), (.bool false), (.var 12)])
  (.ret [(.var 0), (.var 1), (.var 2), (.var 3), (.var 4), (.var 5), (.var 6), (.var 7), (.var 8), (.var 9), (.var 10), (.var 11), (.bool true), (.var 12)]))
def Fs_gotMat : List Fun1 := []
def F_gotMat : Fun1 := ofTree Fs_gotMat tr_gotMat
def G_gotMat : Fun1 := ⟨fun _ => True, fun ins => gotV (b0 ins 12) ins 0 12 ++ [.bool (!b0 ins 12), .bool (b0 ins 12)]⟩
theorem out_gotMat : (fun (g : Nat → Int) => F_gotMat.out (ivs g 0 12 ++ [.bool true])) = fun g => G_gotMat.out (ivs g 0 12 ++ [.bool true]) := by kernel_rfl
theorem out_gotMat' : (fun (g : Nat → Int) => F_gotMat.out (ivs g 0 12 ++ [.bool false])) = fun g => G_gotMat.out (ivs g 0 12 ++ [.bool false]) := by kernel_rfl
theorem as_gotMat (ins : List Value) (ht : TypedL (intTs 12 ++ [.bool]) ins) (_ : G_gotMat.pre ins) : F_gotMat.pre ins ∧ F_gotMat.out ins = G_gotMat.out ins := by
  obtain ⟨g, r, rfl, h1, _⟩ := ints_lit 12 0 ht
  obtain ⟨b, r2, rfl, h2⟩ := bool_cons h1
  obtain rfl := ints0 h2
  cases b
  · exact ⟨trivial, congrFun out_gotMat' g⟩
  · exact ⟨trivial, congrFun out_gotMat g⟩

def tr_iMatTimes : Tr :=
  (.evs [.call 0 [(.var 0), (.var 1), (.var 2), (.var 3), (.var 4), (.var 5), (.var 6), (.var 7), (.var 8), (.var 9), (.var 10), (.var 11)] none 1,
    .call 0 [(.var 12), (.var 13), (.var 14), (.var 15), (.var 16), (.var 17), (.var 18), (.var 19), (.var 20), (.var 21), (.var 22), (.var 23)] (some (.var 24)) 1,
    .call 1 [(.ite (.var 24) (.var 25) (.bool false)), (.bool false)] none 1]
  (.evs [.call 2 [(.var 0), (.var 1), (.var 2), (.var 3), (.var 4), (.var 5), (.var 6), (.var 7), (.var 8), (.var 9), (.var 10), (.var 11), (.var 12), (.var 13), (.var 14), (.var 15), (.var 16), (.var 17), (.var 18), (.var 19), (.var 20), (.var 21), (.var 22), (.var 23), (.var 26)] none 28,
    .call 3 [(.var 30), (.var 31), (.var 32), (.var 33), (.var 34), (.var 35), (.var 36), (.var 37), (.var 38), (.var 39), (.var 40), (.var 41), (.var 42), (.var 43), (.var 44), (.var 45), (.var 46), (.var 47), (.var 48), (.var 49), (.var 50), (.var 51), (.var 52), (.var 53), (.var 54)] none 28,
    .call 4 [(.var 58), (.var 59), (.var 60), (.var 61), (.var 62), (.var 63), (.var 64), (.var 65), (.var 66), (.var 67), (.var 68), (.var 69), (.var 70), (.var 71), (.var 72), (.var 73), (.var 74), (.var 75), (.var 76), (.var 77), (.var 78), (.var 79), (.var 80), (.var 81), (.var 82)] none 28,
    .call 5 [(.var 86), (.var 87), (.var 88), (.var 89), (.var 90), (.var 91), (.var 92), (.var 93), (.var 94), (.var 95), (.var 96), (.var 97), (.var 98), (.var 99), (.var 100), (.var 101), (.var 102), (.var 103), (.var 104), (.var 105), (.var 106), (.var 107), (.var 108), (.var 109), (.var 110)] none 28,
    .call 6 [(.var 27), (.var 28), (.var 29), (.var 55), (.var 56), (.var 57), (.var 83), (.var 84), (.var 85), (.var 111), (.var 112), (.var 113), (.var 138)] none 14]
  (.ret [(.var 139), (.var 140), (.var 141), (.var 142), (.var 143), (.var 144), (.var 145), (.var 146), (.var 147), (.var 148), (.var 149), (.var 150), (.var 151)])))
def Fs_iMatTimes : List Fun1 := [G_iMatValid, G_need, G_mcell00, G_mcell01, G_mcell10, G_mcell11, G_gotMat]
def F_iMatTimes : Fun1 := ofTree Fs_iMatTimes tr_iMatTimes
def G_iMatTimes : Fun1 := ⟨fun _ => True, fun ins => nttW 4 (matQ (fun k => q3 ins (3 * k)) && matQ (fun k => q3 ins (12 + 3 * k))) (mulM (fun k => q3 ins (3 * k)) (fun k => q3 ins (12 + 3 * k)))⟩
theorem out_iMatTimes : (fun (g : Nat → Int) => evalT' Fs_iMatTimes tr_iMatTimes (ivs g 0 24)) = fun g =>
    gotL (mtI (fun k => q3 (ivs g 0 24) (3 * k)) (fun k => q3 (ivs g 0 24) (12 + 3 * k))).2 (mtI (fun k => q3 (ivs g 0 24) (3 * k)) (fun k => q3 (ivs g 0 24) (12 + 3 * k))).1 ++ [.bool (!(mtI (fun k => q3 (ivs g 0 24) (3 * k)) (fun k => q3 (ivs g 0 24) (12 + 3 * k))).2)] := by kernel_rfl
theorem as_iMatTimes (ins : List Value) (ht : TypedL (intTs 24 ++ []) ins) (_ : G_iMatTimes.pre ins) : F_iMatTimes.pre ins ∧ F_iMatTimes.out ins = G_iMatTimes.out ins := by
  obtain ⟨g, r, rfl, h1, _⟩ := ints_lit 24 0 ht
  obtain rfl := ints0 h1
  rw [List.append_nil]
  refine ⟨okT_free (by intro F hF ins; simp only [Fs_iMatTimes, List.mem_cons, List.not_mem_nil, or_false] at hF; rcases hF with rfl | rfl | rfl | rfl | rfl | rfl | rfl <;> trivial) _ _ (by kernel_rfl), (evalT_sel (lens := [1]) (Lens.cons (fun _ => rfl) Lens.nil) _ _ (by kernel_rfl)).trans ((congrFun out_iMatTimes g).trans ?_)⟩
  exact (mtI_eq _ _).trans (nttV_eq _ _ _)

def tr_wholeM : Tr :=
  (.ret [])
def Fs_wholeM : List Fun1 := []
def F_wholeM : Fun1 := ofTree Fs_wholeM tr_wholeM

def tr_iMatScaleM : Tr :=
  (.evs [.call 0 [(.var 0), (.var 1), (.var 2), (.var 3), (.var 4), (.var 5), (.var 6), (.var 7), (.var 8), (.var 9), (.var 10), (.var 11)] none 1,
    .call 1 [(.int .i64 (-1)), (.int .i64 0), (.int .i64 1)] (some (.var 12)) 1,
    .call 2 [(.ite (.var 12) (.var 13) (.bool false)), (.bool false)] none 1]
  (.evs [.call 3 [(.var 0), (.var 1), (.var 2), (.int .i64 (-1)), (.int .i64 0), (.int .i64 1), (.var 14)] none 4]
  (.evs [.call 3 [(.var 3), (.var 4), (.var 5), (.int .i64 (-1)), (.int .i64 0), (.int .i64 1), (.var 18)] none 4]
  (.evs [.call 3 [(.var 6), (.var 7), (.var 8), (.int .i64 (-1)), (.int .i64 0), (.int .i64 1), (.var 22)] none 4]
  (.evs [.call 3 [(.var 9), (.var 10), (.var 11), (.int .i64 (-1)), (.int .i64 0), (.int .i64 1), (.var 26)] none 4]
  (.evs [.call 4 [(.var 15), (.var 16), (.var 17), (.var 19), (.var 20), (.var 21), (.var 23), (.var 24), (.var 25), (.var 27), (.var 28), (.var 29), (.var 30)] none 14]
  (.ret [(.var 31), (.var 32), (.var 33), (.var 34), (.var 35), (.var 36), (.var 37), (.var 38), (.var 39), (.var 40), (.var 41), (.var 42), (.var 43)])))))))
def Fs_iMatScaleM : List Fun1 := [G_iMatValid, G_iFracValid, G_need, G_times, G_gotMat]
def F_iMatScaleM : Fun1 := ofTree Fs_iMatScaleM tr_iMatScaleM
def G_iMatScaleM : Fun1 := ⟨fun _ => True, fun ins => nttW 4 (matQ fun k => q3 ins (3 * k)) (fun k => timesQ (q3 ins (3 * k)) (-1, 0, 1))⟩
theorem out_iMatScaleM : (fun (g : Nat → Int) => evalT' Fs_iMatScaleM tr_iMatScaleM (ivs g 0 12)) = fun g =>
    gotL (scI (fun k => q3 (ivs g 0 12) (3 * k))).2 (scI (fun k => q3 (ivs g 0 12) (3 * k))).1 ++ [.bool (!(scI (fun k => q3 (ivs g 0 12) (3 * k))).2)] := by kernel_rfl
theorem as_iMatScaleM (ins : List Value) (ht : TypedL (intTs 12 ++ []) ins) (_ : G_iMatScaleM.pre ins) : F_iMatScaleM.pre ins ∧ F_iMatScaleM.out ins = G_iMatScaleM.out ins := by
  obtain ⟨g, r, rfl, h1, _⟩ := ints_lit 12 0 ht
  obtain rfl := ints0 h1
  rw [List.append_nil]
  refine ⟨okT_free (by intro F hF ins; simp only [Fs_iMatScaleM, List.mem_cons, List.not_mem_nil, or_false] at hF; rcases hF with rfl | rfl | rfl | rfl | rfl <;> trivial) _ _ (by kernel_rfl), (evalT_sel (lens := [1, 1]) (Lens.cons (fun _ => rfl) (Lens.cons (fun _ => rfl) Lens.nil)) _ _ (by kernel_rfl)).trans ((congrFun out_iMatScaleM g).trans ?_)⟩
  exact (scI_eq _).trans (nttV_eq _ _ _)

def tr_iFracOver : Tr :=
  (.evs [.call 0 [(.var 0), (.var 1), (.var 2)] none 1,
    .call 0 [(.var 3), (.var 4), (.var 5)] (some (.not (.not (.var 6)))) 1]
  (.ite (.ite (.ite (.not (.var 6)) (.bool true) (.not (.var 7))) (.bool true) (.ite (.cmp .eql (.var 3) (.int .i64 0)) (.ite (.cmp .eql (.var 4) (.int .i64 0)) (.cmp .eql (.var 5) (.int .i64 1)) (.bool false)) (.bool false)))
  (.ret [(.int .i64 0), (.int .i64 0), (.int .i64 0), (.bool false)])
  (.evs [.call 1 [(.ar .mul .i64 (.var 5) (.var 3)), (.ar .mul .i64 (.ar .sub .i64 (.int .i64 0) (.var 5)) (.var 4)), (.ar .add .i64 (.ar .mul .i64 (.var 3) (.var 3)) (.ar .mul .i64 (.var 4) (.var 4)))] none 4]
   (.ite (.not (.var 11))
   (.ret [(.int .i64 0), (.int .i64 0), (.int .i64 0), (.bool false)])
   (.evs [.call 2 [(.var 0), (.var 1), (.var 2), (.var 8), (.var 9), (.var 10)] none 4]
    (.ret [(.var 12), (.var 13), (.var 14), (.var 15)]))))))
def Fs_iFracOver : List Fun1 := [G_iFracValid, G_lowest, G_iFracTimes]
def F_iFracOver : Fun1 := ofTree Fs_iFracOver tr_iFracOver
def G_iFracOver : Fun1 := ⟨fun _ => True, fun ins => fr4 (overQ (q3 ins 0) (q3 ins 3))⟩
theorem as_iFracOver (ins : List Value) (ht : TypedL [.int .i64, .int .i64, .int .i64, .int .i64, .int .i64, .int .i64] ins) (_ : G_iFracOver.pre ins) : F_iFracOver.pre ins ∧ F_iFracOver.out ins = G_iFracOver.out ins := by
  obtain ⟨a, b, c, x, y, z, rfl, _⟩ := ints6 ht
  simp only [F_iFracOver, G_iFracOver, tr_iFracOver, Fs_iFracOver, G_iFracValid, G_lowest, G_iFracTimes, overQ, turnQ, validQ, q3, arI, ofTree, okT, okE, evalT, evalE, evsIn, ev, callF, preF, hasF, needs, i0, b0, toI_int, toB_bool, List.getD_cons_zero, List.getD_cons_succ, List.cons_append, List.nil_append, List.replicate, if_true, if_false, Bool.false_eq_true, and_true, true_and, implies_true, forall_const, false_implies, cmpI, Bool.not_true, Bool.not_false, Bool.true_and, Bool.false_and, Bool.and_true, Bool.and_false, reduceIte, List.append_nil, reduceCtorEq]
  cases h : validI a b c
  · simp [fr4, zq]
  · cases k : validI x y z
    · simp [fr4, zq]
    · by_cases hz : x = 0 ∧ y = 0
      · obtain ⟨rfl, rfl⟩ := hz
        have := nil_den k
        subst this
        simp [fr4, zq]
      · obtain ⟨e1, e2, e3, e4, e5, e6, l, _⟩ := turn_facts k hz
        have e2' : IntKind.i64.wrap (-z) = -z := by rw [← e2]; congr 1; omega
        have hz' : ¬ (x = 0 ∧ y = 0 ∧ z = 1) := fun hh => hz ⟨hh.1, hh.2.1⟩
        have hb : (x == 0 && (y == 0 && z == 1)) = false := by
          cases hq : (x == 0 && (y == 0 && z == 1)) with
          | false => rfl
          | true => exact absurd (by simpa using hq) hz'
        have hb2 : (x == 0 && y == 0) = false := by
          cases hq : (x == 0 && y == 0) with
          | false => rfl
          | true => exact absurd (by simpa using hq) hz
        have hc : ∀ p : Prop, (toB (if (x == 0) = true then (if (y == 0) = true then Value.bool (z == 1) else .bool false) else .bool false) = true) = (false = true) := fun p => by
          have : toB (if (x == 0) = true then (if (y == 0) = true then Value.bool (z == 1) else .bool false) else .bool false) = (x == 0 && (y == 0 && z == 1)) := by cases x == 0 <;> cases y == 0 <;> rfl
          rw [this, hb]
        cases ht : lowI (z * x) (-(z * y)) (x * x + y * y) <;> simp [fr4, zq, e1, e2', e3, e4, e5, e6, l, hz, hz', hb, hb2, ht]

def tr_over : Tr :=
  (.evs [.call 0 [(.var 0), (.var 1), (.var 2), (.var 3), (.var 4), (.var 5)] none 4,
    .call 1 [(.var 7), (.var 8), (.var 9), (.var 10), (.var 6)] none 4]
  (.ret [(.var 11), (.var 12), (.var 13), (.var 14)]))
def Fs_over : List Fun1 := [G_iFracOver, F_keep]
def F_over : Fun1 := ofTree Fs_over tr_over
def G_over : Fun1 := ⟨fun _ => True, fun ins => fr3 (overQ (q3 ins 0) (q3 ins 3)) ++ [.bool (b0 ins 6 || !(overQ (q3 ins 0) (q3 ins 3)).isSome)]⟩
theorem as_over (ins : List Value) (ht : TypedL [.int .i64, .int .i64, .int .i64, .int .i64, .int .i64, .int .i64, .bool] ins) (_ : G_over.pre ins) : F_over.pre ins ∧ F_over.out ins = G_over.out ins := by
  obtain ⟨a, r1, rfl, _, ht1⟩ := int_cons ht
  obtain ⟨b, r2, rfl, _, ht2⟩ := int_cons ht1
  obtain ⟨c, r3, rfl, _, ht3⟩ := int_cons ht2
  obtain ⟨x, r4, rfl, _, ht4⟩ := int_cons ht3
  obtain ⟨y, r5, rfl, _, ht5⟩ := int_cons ht4
  obtain ⟨z, r6, rfl, _, ht6⟩ := int_cons ht5
  obtain ⟨t, r7, rfl, ht7⟩ := bool_cons ht6
  obtain rfl := ints0 ht7
  simp only [F_over, G_over, tr_over, Fs_over, G_iFracOver, F_keep, tr_keep, Fs_keep, q3, fr4, fr3, ofTree, okT, okE, evalT, evalE, evsIn, ev, callF, preF, hasF, needs, i0, b0, toI_int, toB_bool, List.getD_cons_zero, List.getD_cons_succ, List.cons_append, List.nil_append, List.replicate, if_true, if_false, Bool.false_eq_true, and_true, true_and, implies_true, forall_const, false_implies, cmpI, Bool.not_true, Bool.not_false, Bool.true_and, Bool.false_and, Bool.and_true, Bool.and_false, reduceIte, List.append_nil, reduceCtorEq]
  cases h : overQ (a, b, c) (x, y, z) <;> simp [zq]

def tr_layerMat : Tr :=
  (.evs [.call 0 [] none 0]
  (.ite (.cmp .eql (.var 3) (.int .i64 0))
  (.ret [(.int .i64 1), (.int .i64 0), (.int .i64 1), (.int .i64 0), (.int .i64 0), (.int .i64 1), (.int .i64 0), (.int .i64 0), (.int .i64 1), (.int .i64 1), (.int .i64 0), (.int .i64 1), (.bool true)])
  (.ite (.cmp .eql (.var 3) (.int .i64 2))
   (.ret [(.int .i64 (-1)), (.int .i64 0), (.int .i64 1), (.int .i64 0), (.int .i64 0), (.int .i64 1), (.int .i64 0), (.int .i64 0), (.int .i64 1), (.int .i64 (-1)), (.int .i64 0), (.int .i64 1), (.bool true)])
   (.evs [.call 1 [(.int .i64 0), (.int .i64 1), (.int .i64 1), (.var 0), (.var 1), (.var 2), (.bool false)] none 4,
      .call 2 [(.int .i64 0), (.int .i64 1), (.int .i64 1), (.var 0), (.var 1), (.var 2), (.var 7)] none 4]
    (.ite (.var 11)
    (.ret [(.int .i64 0), (.int .i64 0), (.int .i64 0), (.int .i64 0), (.int .i64 0), (.int .i64 0), (.int .i64 0), (.int .i64 0), (.int .i64 0), (.int .i64 0), (.int .i64 0), (.int .i64 0), (.bool false)])
    (.ite (.cmp .eql (.var 3) (.int .i64 3))
     (.evs [.call 3 [(.int .i64 0), (.int .i64 0), (.int .i64 1), (.var 4), (.var 5), (.var 6), (.var 8), (.var 9), (.var 10), (.int .i64 0), (.int .i64 0), (.int .i64 1)] none 13]
      (.ret [(.var 12), (.var 13), (.var 14), (.var 15), (.var 16), (.var 17), (.var 18), (.var 19), (.var 20), (.var 21), (.var 22), (.var 23), (.var 24)]))
     (.ret [(.int .i64 0), (.int .i64 0), (.int .i64 1), (.var 4), (.var 5), (.var 6), (.var 8), (.var 9), (.var 10), (.int .i64 0), (.int .i64 0), (.int .i64 1), (.bool true)])))))))
def Fs_layerMat : List Fun1 := [F_wholeM, G_over, G_times, G_iMatScaleM]
def F_layerMat : Fun1 := ofTree Fs_layerMat tr_layerMat
def layW (x : Q) (qt : Int) : List Value := nttW 4 true (layD x qt)
def G_layerMat : Fun1 := ⟨fun _ => True, fun ins => layW (q3 ins 0) (i0 ins 3)⟩
theorem layW_eq {x : Q} {qt : Int} {l : List Value} (h : nttV 4 true (layD x qt) = l) : layW x qt = l := by rw [← h, nttV_eq]; rfl
theorem lay_part {x : Q} {qt : Int} (h0 : ¬ qt = 0) (h2 : ¬ qt = 2) : nttV 4 true (layD x qt) = (match overQ (unitOf qt) x, timesQ (unitOf qt) x with
    | some o, some t => fl3 [nil1, o, t, nil1] ++ [.bool true]
    | _, _ => zeros 12 ++ [.bool false]) := by
  cases ho : overQ (unitOf qt) x with
  | none => simp [nttV, allB, layD, h0, h2, ho]
  | some o =>
    cases ht : timesQ (unitOf qt) x with
    | none => simp [nttV, allB, layD, h0, h2, ho, ht]
    | some t => simp [nttV, allB, layD, h0, h2, ho, ht, listD]
theorem scale_lay {o t : Q} (ho : validQ o = true) (ht : validQ t = true) : G_iMatScaleM.out [.int .i64 0, .int .i64 0, .int .i64 1, .int .i64 o.1, .int .i64 o.2.1, .int .i64 o.2.2, .int .i64 t.1, .int .i64 t.2.1, .int .i64 t.2.2, .int .i64 0, .int .i64 0, .int .i64 1] = fl3 [nil1, negQ o, negQ t, nil1] ++ [.bool true] := by
  have key : ∀ f : Nat → Q, f 0 = nil1 → f 1 = o → f 2 = t → f 3 = nil1 → nttW 4 (matQ f) (fun k => timesQ (f k) (-1, 0, 1)) = fl3 [nil1, negQ o, negQ t, nil1] ++ [.bool true] := by
    intro f h0 h1 h2 h3
    rw [← nttV_eq]
    simp [nttV, matQ, allB, listD, h0, h1, h2, h3, ho, ht, nil1_valid, times_M ho, times_M ht, nil1_neg]
  exact key _ rfl rfl rfl rfl
theorem as_layerMat (ins : List Value) (ht : TypedL [.int .i64, .int .i64, .int .i64, .int .i64] ins) (_ : G_layerMat.pre ins) : F_layerMat.pre ins ∧ F_layerMat.out ins = G_layerMat.out ins := by
  obtain ⟨a, b, c, q, rfl, _⟩ := ints4 ht
  refine ⟨okT_mask (m := [true, true, true, true]) (.yes (fun _ => okT_free (fun F hF => by cases hF) _ _ (by kernel_rfl)) (.yes (fun _ => trivial) (.yes (fun _ => trivial) (.yes (fun _ => trivial) .nil)))) _ _ (by kernel_rfl), ?_⟩
  show evalT Fs_layerMat tr_layerMat _ = layW (a, b, c) q
  by_cases h0 : q = 0
  · subst h0
    exact (layW_eq rfl).symm ▸ rfl
  · by_cases h2 : q = 2
    · subst h2
      exact (layW_eq rfl).symm ▸ rfl
    · rw [layW_eq (lay_part h0 h2)]
      unfold tr_layerMat
      simp only [Fs_layerMat, F_wholeM, tr_wholeM, Fs_wholeM, G_over, G_times, q3, fr3, ofTree, okT, okE, evalT, evalE, evsIn, ev, callF, preF, hasF, needs, i0, b0, toI_int, toB_bool, List.getD_cons_zero, List.getD_cons_succ, List.cons_append, List.nil_append, List.replicate, if_true, if_false, Bool.false_eq_true, and_true, true_and, implies_true, forall_const, false_implies, cmpI, Bool.not_true, Bool.not_false, Bool.true_and, Bool.false_and, Bool.and_true, Bool.and_false, reduceIte, List.append_nil, reduceCtorEq]
      simp only [beq_eq_false_iff_ne.2 h0, beq_eq_false_iff_ne.2 h2, ofTree, okT, okE, evalT, evalE, evsIn, ev, callF, preF, hasF, needs, i0, b0, toI_int, toB_bool, List.getD_cons_zero, List.getD_cons_succ, List.cons_append, List.nil_append, List.replicate, if_true, if_false, Bool.false_eq_true, and_true, true_and, implies_true, forall_const, false_implies, cmpI, Bool.not_true, Bool.not_false, Bool.true_and, Bool.false_and, Bool.and_true, Bool.and_false, reduceIte, List.append_nil, reduceCtorEq]
      have hJ := lay_none (x := (a, b, c))
      have hN := @lay_neg (a, b, c)
      cases ho : overQ (0, 1, 1) (a, b, c) with
      | none =>
        have hj := hJ (.inl (by rw [ho]; rfl))
        by_cases h3 : q = 3
        · have hu : unitOf q = (0, -1, 1) := by simp [unitOf, h3]
          rw [hu]
          rcases hj with hj | hj <;> simp [Option.isNone_iff_eq_none.1 (Option.isSome_eq_false_iff.1 hj), zeros]
        · have hu : unitOf q = (0, 1, 1) := by simp [unitOf, h3]
          rw [hu, ho]
          simp [zeros]
      | some o =>
        cases ht : timesQ (0, 1, 1) (a, b, c) with
        | none =>
          have hj := hJ (.inr (by rw [ht]; rfl))
          by_cases h3 : q = 3
          · have hu : unitOf q = (0, -1, 1) := by simp [unitOf, h3]
            rw [hu]
            rcases hj with hj | hj <;> simp [Option.isNone_iff_eq_none.1 (Option.isSome_eq_false_iff.1 hj), zeros]
          · have hu : unitOf q = (0, 1, 1) := by simp [unitOf, h3]
            rw [hu, ho, ht]
            simp [zeros]
        | some t =>
          obtain ⟨n1, n2, v1, v2⟩ := hN ho ht
          by_cases h3 : q = 3
          · have hu : unitOf q = (0, -1, 1) := by simp [unitOf, h3]
            rw [hu, n1, n2, times_M v1, times_M v2]
            subst h3
            simp only [Option.getD_some, scale_lay v1 v2]
            simp [fl3, nil1]
          · have hu : unitOf q = (0, 1, 1) := by simp [unitOf, h3]
            rw [hu, ho, ht]
            simp [fl3, nil1, h3]

def tr_iFilmMat : Tr :=
  (.evs [.call 0 [(.var 0), (.var 1)] none 1]
  (.ite (.not (.var 2))
  (.ret [(.int .i64 0), (.int .i64 0), (.int .i64 0), (.int .i64 0), (.int .i64 0), (.int .i64 0), (.int .i64 0), (.int .i64 0), (.int .i64 0), (.int .i64 0), (.int .i64 0), (.int .i64 0), (.bool false)])
  (.lp 0 [(.int .i64 0), (.int .i64 1), (.int .i64 0), (.int .i64 1), (.int .i64 0), (.int .i64 0), (.int .i64 1), (.int .i64 0), (.int .i64 0), (.int .i64 1), (.int .i64 1), (.int .i64 0), (.int .i64 1)] [.int .i64, .int .i64, .int .i64, .int .i64, .int .i64, .int .i64, .int .i64, .int .i64, .int .i64, .int .i64, .int .i64, .int .i64, .int .i64]
   (.ite (.cmp .lss (.var 3) (.len (.var 0)))
    (.evs [.need [(.inb (.var 1) (.var 3) 4)]]
     (.evs [.call 1 [(.sel (.var 1) (.var 3) 4 0), (.sel (.var 1) (.var 3) 4 1), (.sel (.var 1) (.var 3) 4 2), (.sel (.var 1) (.var 3) 4 3)] none 13]
     (.evs [.call 2 [(.var 4), (.var 5), (.var 6), (.var 7), (.var 8), (.var 9), (.var 10), (.var 11), (.var 12), (.var 13), (.var 14), (.var 15), (.var 16), (.var 17), (.var 18), (.var 19), (.var 20), (.var 21), (.var 22), (.var 23), (.var 24), (.var 25), (.var 26), (.var 27)] none 13]
     (.ite (.ite (.not (.var 28)) (.bool true) (.not (.var 41)))
     (.ret [(.int .i64 0), (.int .i64 0), (.int .i64 0), (.int .i64 0), (.int .i64 0), (.int .i64 0), (.int .i64 0), (.int .i64 0), (.int .i64 0), (.int .i64 0), (.int .i64 0), (.int .i64 0), (.bool false)])
     (.next 0 [(.ar .add .i64 (.var 3) (.int .i64 1)), (.var 29), (.var 30), (.var 31), (.var 32), (.var 33), (.var 34), (.var 35), (.var 36), (.var 37), (.var 38), (.var 39), (.var 40)])))))
    (.ret [(.var 4), (.var 5), (.var 6), (.var 7), (.var 8), (.var 9), (.var 10), (.var 11), (.var 12), (.var 13), (.var 14), (.var 15), (.bool true)])))))
def Fs_iFilmMat : List Fun1 := [F_iFilmValid, G_layerMat, G_iMatTimes]
def sameL : List Value := ivs (fun i => if i = 0 then 1 else if i = 2 then 1 else if i = 5 then 1 else if i = 8 then 1 else if i = 9 then 1 else if i = 11 then 1 else 0) 0 12
def layO (c : Value) (k : Nat) : List Value := layW (rq c k 0, rq c k 1, rq c k 2) (rq c k 3)
def filmStep (c : Value) (k : Nat) (acc : List Value) : Option (List Value) :=
  if b0 (layO c k) 12 && b0 (G_iMatTimes.out (acc ++ (layO c k).take 12)) 12 then some ((G_iMatTimes.out (acc ++ (layO c k).take 12)).take 12) else none
def filmR (c : Value) : Nat → Option (List Value)
  | 0 => some sameL
  | k + 1 => (filmR c k).bind (filmStep c k)
theorem filmR_none {c : Value} {k : Nat} (h : filmR c k = none) : ∀ j, filmR c (k + j) = none
  | 0 => h
  | j + 1 => by rw [show k + (j + 1) = (k + j) + 1 by omega, filmR, filmR_none h j]; rfl
theorem filmR_lit {c : Value} : ∀ {k : Nat} {acc : List Value}, filmR c k = some acc → ∃ h : Nat → Int, acc = ivs h 0 12
  | 0, acc, h => ⟨_, (Option.some.inj h).symm⟩
  | k + 1, acc, h => by
    obtain ⟨a, _, h2⟩ := Option.bind_eq_some_iff.1 h
    unfold filmStep at h2
    split at h2
    · exact ⟨_, (Option.some.inj h2).symm⟩
    · cases h2
def filmO (c : Value) (n : Nat) : List Value := match filmR c n with
  | some acc => acc ++ [.bool true]
  | none => zeros 12 ++ [.bool false]
def filmV (x c : Value) : List Value := if (allB (layP c) 0 (rlen x) && decide (lenV x ≤ 8)) = true then filmO c (rlen x) else zeros 12 ++ [.bool false]
theorem filmV_lit (x c : Value) : ∃ (h : Nat → Int) (t : Bool), filmV x c = ivs h 0 12 ++ [.bool t] := by
  unfold filmV filmO
  split
  · cases hr : filmR c (rlen x) with
    | none => exact ⟨fun _ => 0, false, rfl⟩
    | some acc =>
      obtain ⟨h, rfl⟩ := filmR_lit hr
      exact ⟨h, true, rfl⟩
  · exact ⟨fun _ => 0, false, rfl⟩
theorem film_len (x c : Value) : (filmV x c).length = 13 := by
  obtain ⟨h, t, hR⟩ := filmV_lit x c
  rw [hR]; rfl
def F_iFilmMat : Fun1 := ⟨fun ins => Fit4 (ins.getD 0 undef) (ins.getD 1 undef), fun ins => filmV (ins.getD 0 undef) (ins.getD 1 undef)⟩
theorem sat_iFilmMat (P : Program) (ins : List Value) (K : List Value → Prop) (ht : TypedL [.sl, .row .i64 4] ins) (hp : F_iFilmMat.pre ins) (hK : K (F_iFilmMat.out ins)) : sat P (specsOf Fs_iFilmMat) tr_iFilmMat ins [] K := by
  obtain ⟨x, c, rfl, hx, hcT⟩ := two_of ht
  obtain ⟨a, n, cap, rfl, hc, hn⟩ : Fit4 x c := hp
  have hout : F_iFilmMat.out [.slice a n cap, c] = if (allB (layP c) 0 n && decide ((n : Int) ≤ 8)) = true then filmO c n else zeros 12 ++ [.bool false] := rfl
  rw [hout] at hK
  refine ⟨⟨a, n, cap, rfl, hc, hn⟩, ?_⟩
  show sat P _ _ ([Value.slice a n cap, c] ++ [.bool (allB (layP c) 0 n && decide ((n : Int) ≤ 8))]) _ K
  cases hV : (allB (layP c) 0 n && decide ((n : Int) ≤ 8)) with
  | false =>
    rw [hV] at hK
    exact ⟨fun _ => hK, fun h => (by cases h)⟩
  | true =>
    rw [hV] at hK
    have hK : K (filmO c n) := hK
    refine ⟨fun h => (by cases h), fun _ => ?_⟩
    refine ⟨fun vs => ∃ k : Nat, vs.getD 0 undef = .int .i64 k ∧ k ≤ n ∧ filmR c k = some (vs.drop 1), fun vs => n - (toI (vs.getD 0 undef)).toNat, ⟨0, rfl, Nat.zero_le _, rfl⟩, ?_⟩
    rintro vs hty ⟨k, hk0, hk, hf⟩
    obtain ⟨g, r, rfl, h1, _⟩ := ints_lit (ts := []) 13 0 hty
    obtain rfl := ints0 h1
    rw [List.append_nil] at *
    have hg : g 0 = (k : Int) := by
      have : Value.int .i64 (g 0) = .int .i64 k := hk0
      simpa using this
    have e : ivs g 0 13 = .int .i64 k :: ivs g 1 12 := by rw [ivs, hg]
    rw [e] at hf ⊢
    have hf : filmR c k = some (ivs g 1 12) := hf
    have failed : filmStep c k (ivs g 1 12) = none → k < n → K (zeros 12 ++ [.bool false]) := fun hs hlt => by
      have h1 : filmR c (k + 1) = none := by rw [filmR, hf]; exact hs
      have h2 := filmR_none h1 (n - (k + 1))
      rw [show k + 1 + (n - (k + 1)) = n by omega] at h2
      have : filmO c n = zeros 12 ++ [.bool false] := by unfold filmO; rw [h2]
      rw [this] at hK
      exact hK
    refine ⟨fun h => ?_, fun h => ?_⟩
    · have hlt : k < n := by
        have : decide ((k : Int) < (n : Int)) = true := Value.bool.inj h
        simpa using this
      have hin := inb_ok hc hlt
      refine ⟨fun e he => by rw [List.mem_singleton.1 he]; exact hin, trivial, ?_⟩
      refine ⟨trivial, ?_⟩
      have hstep : filmStep c k (ivs g 1 12) = if b0 (layO c k) 12 && b0 (G_iMatTimes.out (ivs g 1 12 ++ (layO c k).take 12)) 12 then some ((G_iMatTimes.out (ivs g 1 12 ++ (layO c k).take 12)).take 12) else none := rfl
      refine ⟨fun h2 => ?_, fun h2 => ?_⟩
      · have h2 : (if toB (.bool (!b0 (layO c k) 12)) = true then Value.bool true else .bool (!b0 (G_iMatTimes.out (ivs g 1 12 ++ (layO c k).take 12)) 12)) = .bool true := h2
        refine failed ?_ hlt
        rw [hstep]
        cases hm : b0 (layO c k) 12 with
        | false => rfl
        | true =>
          rw [hm] at h2
          have h2 := Value.bool.inj h2
          cases hr : b0 (G_iMatTimes.out (ivs g 1 12 ++ (layO c k).take 12)) 12 with
          | false => rfl
          | true => rw [hr] at h2; cases h2
      · have h2 : (if toB (.bool (!b0 (layO c k) 12)) = true then Value.bool true else .bool (!b0 (G_iMatTimes.out (ivs g 1 12 ++ (layO c k).take 12)) 12)) = .bool false := h2
        have hok : filmStep c k (ivs g 1 12) = some ((G_iMatTimes.out (ivs g 1 12 ++ (layO c k).take 12)).take 12) := by
          rw [hstep]
          cases hm : b0 (layO c k) 12 with
          | false => rw [hm] at h2; cases h2
          | true =>
            rw [hm] at h2
            have h2 := Value.bool.inj h2
            cases hr : b0 (G_iMatTimes.out (ivs g 1 12 ++ (layO c k).take 12)) 12 with
            | false => rw [hr] at h2; cases h2
            | true => rfl
        refine ⟨⟨k + 1, congrArg (Value.int .i64) (wrap_next hlt hn), by omega, ?_⟩, ?_⟩
        · rw [filmR, hf]; exact hok
        · show n - (toI (.int .i64 (IntKind.i64.wrap ((k : Int) + 1)))).toNat < n - (toI (.int .i64 (k : Int))).toNat
          rw [wrap_next hlt hn]
          simp only [toI_int, Int.toNat_natCast]
          omega
    · have hge : ¬ k < n := by
        have : decide ((k : Int) < (n : Int)) = false := Value.bool.inj h
        simpa using this
      have hkn : k = n := by omega
      subst hkn
      have : filmO c k = ivs g 1 12 ++ [.bool true] := by unfold filmO; rw [hf]
      rw [this] at hK
      exact hK

def tr_mrow0 : Tr :=
  (.evs [.call 0 [(.var 0), (.var 1), (.var 2), (.var 12), (.var 13), (.var 14), (.var 18)] none 4,
    .call 0 [(.var 3), (.var 4), (.var 5), (.var 15), (.var 16), (.var 17), (.var 22)] none 4,
    .call 1 [(.var 19), (.var 20), (.var 21), (.var 23), (.var 24), (.var 25), (.var 26)] none 4]
  (.ret [(.var 27), (.var 28), (.var 29), (.var 0), (.var 1), (.var 2), (.var 3), (.var 4), (.var 5), (.var 6), (.var 7), (.var 8), (.var 9), (.var 10), (.var 11), (.var 12), (.var 13), (.var 14), (.var 15), (.var 16), (.var 17), (.var 30)]))
def Fs_mrow0 : List Fun1 := [G_times, G_add]
def F_mrow0 : Fun1 := ofTree Fs_mrow0 tr_mrow0
def G_mrow0 : Fun1 := ⟨fun _ => True, fun ins => fl3 [(mixI (b0 ins 18) (q3 ins 0) (q3 ins 12) (q3 ins 3) (q3 ins 15)).1] ++ (copyV ins 0 18 ++ [.bool (mixI (b0 ins 18) (q3 ins 0) (q3 ins 12) (q3 ins 3) (q3 ins 15)).2])⟩
theorem out_mrow0 : (fun (g : Nat → Int) (s : Bool) => F_mrow0.out (ivs g 0 18 ++ [.bool s])) = fun g s => G_mrow0.out (ivs g 0 18 ++ [.bool s]) := by kernel_rfl
theorem as_mrow0 (ins : List Value) (ht : TypedL (intTs 18 ++ [.bool]) ins) (_ : G_mrow0.pre ins) : F_mrow0.pre ins ∧ F_mrow0.out ins = G_mrow0.out ins := by
  obtain ⟨g, r, rfl, h1, _⟩ := ints_lit 18 0 ht
  obtain ⟨s, r2, rfl, h2⟩ := bool_cons h1
  obtain rfl := ints0 h2
  exact ⟨okT_free (by intro F hF ins; simp only [Fs_mrow0, List.mem_cons, List.not_mem_nil, or_false] at hF; rcases hF with rfl | rfl <;> trivial) _ _ (by kernel_rfl), congrFun (congrFun out_mrow0 g) s⟩

def tr_mrow1 : Tr :=
  (.evs [.call 0 [(.var 6), (.var 7), (.var 8), (.var 12), (.var 13), (.var 14), (.var 18)] none 4,
    .call 0 [(.var 9), (.var 10), (.var 11), (.var 15), (.var 16), (.var 17), (.var 22)] none 4,
    .call 1 [(.var 19), (.var 20), (.var 21), (.var 23), (.var 24), (.var 25), (.var 26)] none 4]
  (.ret [(.var 27), (.var 28), (.var 29), (.var 0), (.var 1), (.var 2), (.var 3), (.var 4), (.var 5), (.var 6), (.var 7), (.var 8), (.var 9), (.var 10), (.var 11), (.var 12), (.var 13), (.var 14), (.var 15), (.var 16), (.var 17), (.var 30)]))
def Fs_mrow1 : List Fun1 := [G_times, G_add]
def F_mrow1 : Fun1 := ofTree Fs_mrow1 tr_mrow1
def G_mrow1 : Fun1 := ⟨fun _ => True, fun ins => fl3 [(mixI (b0 ins 18) (q3 ins 6) (q3 ins 12) (q3 ins 9) (q3 ins 15)).1] ++ (copyV ins 0 18 ++ [.bool (mixI (b0 ins 18) (q3 ins 6) (q3 ins 12) (q3 ins 9) (q3 ins 15)).2])⟩
theorem out_mrow1 : (fun (g : Nat → Int) (s : Bool) => F_mrow1.out (ivs g 0 18 ++ [.bool s])) = fun g s => G_mrow1.out (ivs g 0 18 ++ [.bool s]) := by kernel_rfl
theorem as_mrow1 (ins : List Value) (ht : TypedL (intTs 18 ++ [.bool]) ins) (_ : G_mrow1.pre ins) : F_mrow1.pre ins ∧ F_mrow1.out ins = G_mrow1.out ins := by
  obtain ⟨g, r, rfl, h1, _⟩ := ints_lit 18 0 ht
  obtain ⟨s, r2, rfl, h2⟩ := bool_cons h1
  obtain rfl := ints0 h2
  exact ⟨okT_free (by intro F hF ins; simp only [Fs_mrow1, List.mem_cons, List.not_mem_nil, or_false] at hF; rcases hF with rfl | rfl <;> trivial) _ _ (by kernel_rfl), congrFun (congrFun out_mrow1 g) s⟩

def tr_gotJones : Tr :=
  (.ite (.var 6)
  (.ret [(.int .i64 0), (.int .i64 0), (.int .i64 0), (.int .i64 0), (.int .i64 0), (.int .i64 0), (.bool false), (.var 6)])
  (.ret [(.var 0), (.var 1), (.var 2), (.var 3), (.var 4), (.var 5), (.bool true), (.var 6)]))
def Fs_gotJones : List Fun1 := []
def F_gotJones : Fun1 := ofTree Fs_gotJones tr_gotJones
def G_gotJones : Fun1 := ⟨fun _ => True, fun ins => gotV (b0 ins 6) ins 0 6 ++ [.bool (!b0 ins 6), .bool (b0 ins 6)]⟩
theorem out_gotJones : (fun (g : Nat → Int) => F_gotJones.out (ivs g 0 6 ++ [.bool true])) = fun g => G_gotJones.out (ivs g 0 6 ++ [.bool true]) := by kernel_rfl
theorem out_gotJones' : (fun (g : Nat → Int) => F_gotJones.out (ivs g 0 6 ++ [.bool false])) = fun g => G_gotJones.out (ivs g 0 6 ++ [.bool false]) := by kernel_rfl
theorem as_gotJones (ins : List Value) (ht : TypedL (intTs 6 ++ [.bool]) ins) (_ : G_gotJones.pre ins) : F_gotJones.pre ins ∧ F_gotJones.out ins = G_gotJones.out ins := by
  obtain ⟨g, r, rfl, h1, _⟩ := ints_lit 6 0 ht
  obtain ⟨b, r2, rfl, h2⟩ := bool_cons h1
  obtain rfl := ints0 h2
  cases b
  · exact ⟨trivial, congrFun out_gotJones' g⟩
  · exact ⟨trivial, congrFun out_gotJones g⟩

def tr_gotFrac : Tr :=
  (.ite (.var 3)
  (.ret [(.int .i64 0), (.int .i64 0), (.int .i64 0), (.bool false), (.var 3)])
  (.ret [(.var 0), (.var 1), (.var 2), (.bool true), (.var 3)]))
def Fs_gotFrac : List Fun1 := []
def F_gotFrac : Fun1 := ofTree Fs_gotFrac tr_gotFrac
def G_gotFrac : Fun1 := ⟨fun _ => True, fun ins => gotV (b0 ins 3) ins 0 3 ++ [.bool (!b0 ins 3), .bool (b0 ins 3)]⟩
theorem out_gotFrac : (fun (g : Nat → Int) => F_gotFrac.out (ivs g 0 3 ++ [.bool true])) = fun g => G_gotFrac.out (ivs g 0 3 ++ [.bool true]) := by kernel_rfl
theorem out_gotFrac' : (fun (g : Nat → Int) => F_gotFrac.out (ivs g 0 3 ++ [.bool false])) = fun g => G_gotFrac.out (ivs g 0 3 ++ [.bool false]) := by kernel_rfl
theorem as_gotFrac (ins : List Value) (ht : TypedL (intTs 3 ++ [.bool]) ins) (_ : G_gotFrac.pre ins) : F_gotFrac.pre ins ∧ F_gotFrac.out ins = G_gotFrac.out ins := by
  obtain ⟨g, r, rfl, h1, _⟩ := ints_lit 3 0 ht
  obtain ⟨b, r2, rfl, h2⟩ := bool_cons h1
  obtain rfl := ints0 h2
  cases b
  · exact ⟨trivial, congrFun out_gotFrac' g⟩
  · exact ⟨trivial, congrFun out_gotFrac g⟩

def tr_iJonesValid : Tr :=
  (.evs [.call 0 [(.var 0), (.var 1), (.var 2)] none 1,
    .call 0 [(.var 3), (.var 4), (.var 5)] (some (.var 6)) 1]
  (.ret [(.ite (.var 6) (.var 7) (.bool false))]))
def Fs_iJonesValid : List Fun1 := [G_iFracValid]
def F_iJonesValid : Fun1 := ofTree Fs_iJonesValid tr_iJonesValid
def G_iJonesValid : Fun1 := ⟨fun _ => True, fun ins => [.bool (jonesQ (q3 ins 0) (q3 ins 3))]⟩
theorem as_iJonesValid (ins : List Value) (ht : TypedL [.int .i64, .int .i64, .int .i64, .int .i64, .int .i64, .int .i64] ins) (_ : G_iJonesValid.pre ins) : F_iJonesValid.pre ins ∧ F_iJonesValid.out ins = G_iJonesValid.out ins := by
  obtain ⟨a, b, c, x, y, z, rfl, _⟩ := ints6 ht
  simp only [F_iJonesValid, G_iJonesValid, tr_iJonesValid, Fs_iJonesValid, G_iFracValid, jonesQ, validQ, q3, ofTree, okT, okE, evalT, evalE, evsIn, ev, callF, preF, hasF, needs, i0, b0, toI_int, toB_bool, List.getD_cons_zero, List.getD_cons_succ, List.cons_append, List.nil_append, List.replicate, if_true, if_false, Bool.false_eq_true, and_true, true_and, implies_true, forall_const, false_implies, cmpI, Bool.not_true, Bool.not_false, Bool.true_and, Bool.false_and, Bool.and_true, Bool.and_false, reduceIte, List.append_nil, reduceCtorEq]
  cases h : validI a b c <;> simp [h]

def tr_iMatApply : Tr :=
  (.evs [.call 0 [(.var 0), (.var 1), (.var 2), (.var 3), (.var 4), (.var 5), (.var 6), (.var 7), (.var 8), (.var 9), (.var 10), (.var 11)] none 1,
    .call 1 [(.var 12), (.var 13), (.var 14), (.var 15), (.var 16), (.var 17)] (some (.var 18)) 1,
    .call 2 [(.ite (.var 18) (.var 19) (.bool false)), (.bool false)] none 1]
  (.evs [.call 3 [(.var 0), (.var 1), (.var 2), (.var 3), (.var 4), (.var 5), (.var 6), (.var 7), (.var 8), (.var 9), (.var 10), (.var 11), (.var 12), (.var 13), (.var 14), (.var 15), (.var 16), (.var 17), (.var 20)] none 22,
    .call 4 [(.var 24), (.var 25), (.var 26), (.var 27), (.var 28), (.var 29), (.var 30), (.var 31), (.var 32), (.var 33), (.var 34), (.var 35), (.var 36), (.var 37), (.var 38), (.var 39), (.var 40), (.var 41), (.var 42)] none 22,
    .call 5 [(.var 21), (.var 22), (.var 23), (.var 43), (.var 44), (.var 45), (.var 64)] none 8]
  (.ret [(.var 65), (.var 66), (.var 67), (.var 68), (.var 69), (.var 70), (.var 71)])))
def Fs_iMatApply : List Fun1 := [G_iMatValid, G_iJonesValid, G_need, G_mrow0, G_mrow1, G_gotJones]
def F_iMatApply : Fun1 := ofTree Fs_iMatApply tr_iMatApply
def G_iMatApply : Fun1 := ⟨fun _ => True, fun ins => nttW 2 (matQ (fun k => q3 ins (3 * k)) && jonesQ (q3 ins 12) (q3 ins 15)) (applyD (fun k => q3 ins (3 * k)) (q3 ins 12) (q3 ins 15))⟩
theorem out_iMatApply : (fun (g : Nat → Int) => evalT' Fs_iMatApply tr_iMatApply (ivs g 0 18)) = fun g =>
    gotL (maI (fun k => q3 (ivs g 0 18) (3 * k)) (q3 (ivs g 0 18) 12) (q3 (ivs g 0 18) 15)).2 (maI (fun k => q3 (ivs g 0 18) (3 * k)) (q3 (ivs g 0 18) 12) (q3 (ivs g 0 18) 15)).1 ++ [.bool (!(maI (fun k => q3 (ivs g 0 18) (3 * k)) (q3 (ivs g 0 18) 12) (q3 (ivs g 0 18) 15)).2)] := by kernel_rfl
theorem as_iMatApply (ins : List Value) (ht : TypedL (intTs 18 ++ []) ins) (_ : G_iMatApply.pre ins) : F_iMatApply.pre ins ∧ F_iMatApply.out ins = G_iMatApply.out ins := by
  obtain ⟨g, r, rfl, h1, _⟩ := ints_lit 18 0 ht
  obtain rfl := ints0 h1
  rw [List.append_nil]
  refine ⟨okT_free (by intro F hF ins; simp only [Fs_iMatApply, List.mem_cons, List.not_mem_nil, or_false] at hF; rcases hF with rfl | rfl | rfl | rfl | rfl | rfl <;> trivial) _ _ (by kernel_rfl), (evalT_sel (lens := [1, 1]) (Lens.cons (fun _ => rfl) (Lens.cons (fun _ => rfl) Lens.nil)) _ _ (by kernel_rfl)).trans ((congrFun out_iMatApply g).trans ?_)⟩
  exact (maI_eq _ _ _).trans (nttV_eq _ _ _)

def tr_film : Tr :=
  (.evs [.call 0 [(.var 0), (.var 7)] none 13]
  (.evs [.call 1 [(.var 1), (.var 2), (.var 3)] (some (.not (.not (.var 20)))) 1,
    .call 1 [(.var 4), (.var 5), (.var 6)] (some (.not (.ite (.not (.var 20)) (.bool true) (.not (.var 21))))) 1]
  (.ite (.ite (.ite (.not (.var 20)) (.bool true) (.not (.var 21))) (.bool true) (.not (.var 22)))
  (.ret [(.int .i64 0), (.int .i64 0), (.int .i64 0), (.int .i64 0), (.int .i64 0), (.int .i64 0), (.int .i64 0), (.int .i64 0), (.int .i64 0), (.bool false)])
  (.evs [.call 2 [(.var 8), (.var 9), (.var 10), (.var 11), (.var 12), (.var 13), (.var 14), (.var 15), (.var 16), (.var 17), (.var 18), (.var 19), (.int .i64 1), (.int .i64 0), (.int .i64 1), (.var 4), (.var 5), (.var 6)] none 7]
   (.evs [.call 3 [(.var 29), (.bool false)] none 1]
   (.evs [.call 4 [(.var 1), (.var 2), (.var 3), (.var 23), (.var 24), (.var 25), (.var 30)] none 4]
   (.evs [.call 5 [(.var 31), (.var 32), (.var 33), (.var 26), (.var 27), (.var 28), (.var 34)] none 4]
   (.ret [(.var 31), (.var 32), (.var 33), (.var 26), (.var 27), (.var 28), (.var 35), (.var 36), (.var 37), (.ite (.not (.var 38)) (.not (.ite (.cmp .eql (.var 35) (.int .i64 0)) (.ite (.cmp .eql (.var 36) (.int .i64 0)) (.cmp .eql (.var 37) (.int .i64 1)) (.bool false)) (.bool false))) (.bool false))]))))))))
def Fs_film : List Fun1 := [F_iFilmMat, G_indexOk, G_iMatApply, G_need, G_times, G_add]
def F_film : Fun1 := ofTree Fs_film tr_film
def matOf (x c : Value) (k : Nat) : Q := q3 (filmV x c) (3 * k)
def okOf (x c : Value) : Bool := b0 (filmV x c) 12
def G_film : Fun1 := ⟨fun ins => Fit4 (ins.getD 0 undef) (ins.getD 7 undef), fun ins => fl3 [(filmF (matOf (ins.getD 0 undef) (ins.getD 7 undef)) (okOf (ins.getD 0 undef) (ins.getD 7 undef)) (q3 ins 1) (q3 ins 4)).1, (filmF (matOf (ins.getD 0 undef) (ins.getD 7 undef)) (okOf (ins.getD 0 undef) (ins.getD 7 undef)) (q3 ins 1) (q3 ins 4)).2.1, (filmF (matOf (ins.getD 0 undef) (ins.getD 7 undef)) (okOf (ins.getD 0 undef) (ins.getD 7 undef)) (q3 ins 1) (q3 ins 4)).2.2.1] ++ [.bool (filmF (matOf (ins.getD 0 undef) (ins.getD 7 undef)) (okOf (ins.getD 0 undef) (ins.getD 7 undef)) (q3 ins 1) (q3 ins 4)).2.2.2]⟩
theorem out_film : (fun (h : Nat → Int) (x c : Value) (a0 a1 a2 b0' b1 b2 : Int) (t : Bool) => evalT' Fs_film (tailT tr_film) ([x, .int .i64 a0, .int .i64 a1, .int .i64 a2, .int .i64 b0', .int .i64 b1, .int .i64 b2, c] ++ (ivs h 0 12 ++ [.bool t]))) = fun h x c a0 a1 a2 b0' b1 b2 t => filmG (fun k => q3 (ivs h 0 12 ++ [.bool t]) (3 * k)) t (a0, a1, a2) (b0', b1, b2) := by kernel_rfl
theorem as_film (ins : List Value) (ht : TypedL [.sl, .int .i64, .int .i64, .int .i64, .int .i64, .int .i64, .int .i64, .row .i64 4] ins) (hp : G_film.pre ins) : F_film.pre ins ∧ F_film.out ins = G_film.out ins := by
  obtain ⟨x, r, rfl, hx, ht1⟩ := TypedL_cons ht
  obtain ⟨a0, r, rfl, _, ht2⟩ := int_cons ht1
  obtain ⟨a1, r, rfl, _, ht3⟩ := int_cons ht2
  obtain ⟨a2, r, rfl, _, ht4⟩ := int_cons ht3
  obtain ⟨b0', r, rfl, _, ht5⟩ := int_cons ht4
  obtain ⟨b1, r, rfl, _, ht6⟩ := int_cons ht5
  obtain ⟨b2, r, rfl, _, ht7⟩ := int_cons ht6
  obtain ⟨c, r, rfl, hc, ht8⟩ := TypedL_cons ht7
  obtain rfl := TypedL_nil ht8
  obtain ⟨h, t, hR⟩ := filmV_lit x c
  have hp : Fit4 x c := hp
  have hm : matOf x c = fun k => q3 (ivs h 0 12 ++ [.bool t]) (3 * k) := funext fun k => by unfold matOf; rw [hR]
  have htt : okOf x c = t := by unfold okOf; rw [hR]; rfl
  have hG : G_film.out [x, .int .i64 a0, .int .i64 a1, .int .i64 a2, .int .i64 b0', .int .i64 b1, .int .i64 b2, c] = fl3 [(filmF (matOf x c) (okOf x c) (a0, a1, a2) (b0', b1, b2)).1, (filmF (matOf x c) (okOf x c) (a0, a1, a2) (b0', b1, b2)).2.1, (filmF (matOf x c) (okOf x c) (a0, a1, a2) (b0', b1, b2)).2.2.1] ++ [.bool (filmF (matOf x c) (okOf x c) (a0, a1, a2) (b0', b1, b2)).2.2.2] := rfl
  have hF : F_iFilmMat.out [x, c] = ivs h 0 12 ++ [.bool t] := hR
  rw [hG, hm, htt]
  refine ⟨⟨⟨hp, trivial⟩, ?_⟩, ?_⟩
  · show okT Fs_film _ ([x, .int .i64 a0, .int .i64 a1, .int .i64 a2, .int .i64 b0', .int .i64 b1, .int .i64 b2, c] ++ F_iFilmMat.out [x, c])
    exact okT_mask (m := [false, true, true, true, true, true]) (.no (.yes (fun _ => trivial) (.yes (fun _ => trivial) (.yes (fun _ => trivial) (.yes (fun _ => trivial) (.yes (fun _ => trivial) .nil)))))) _ _ (by kernel_rfl)
  · show evalT Fs_film (tailT tr_film) ([x, .int .i64 a0, .int .i64 a1, .int .i64 a2, .int .i64 b0', .int .i64 b1, .int .i64 b2, c] ++ F_iFilmMat.out [x, c]) = _
    have hL : Lens Fs_film [13, 1] := Lens.cons (fun _ => film_len _ _) (Lens.cons (fun _ => rfl) Lens.nil)
    rw [hF, evalT_sel hL _ _ (by kernel_rfl)]
    refine (congrFun (congrFun (congrFun (congrFun (congrFun (congrFun (congrFun (congrFun (congrFun (congrFun out_film h) x) c) a0) a1) a2) b0') b1) b2) t).trans ?_
    exact filmG_eq _ _ _ _

def tr_iFilmReflected : Tr :=
  (.evs [.call 0 [(.var 0), (.var 1), (.var 2), (.var 3), (.var 4), (.var 5), (.var 6), (.var 7)] none 10]
  (.evs [.call 1 [(.var 17), (.bool false)] none 1]
  (.evs [.call 2 [(.var 8), (.var 9), (.var 10), (.var 11), (.var 12), (.var 13), (.var 18)] none 4,
    .call 3 [(.var 19), (.var 20), (.var 21), (.var 14), (.var 15), (.var 16), (.var 22)] none 4,
    .call 4 [(.var 23), (.var 24), (.var 25), (.var 26)] none 5]
  (.ret [(.var 27), (.var 28), (.var 29), (.var 30)]))))
def Fs_iFilmReflected : List Fun1 := [G_film, G_need, G_less, G_over, G_gotFrac]
def F_iFilmReflected : Fun1 := ofTree Fs_iFilmReflected tr_iFilmReflected
def G_iFilmReflected : Fun1 := ⟨fun ins => Fit4 (ins.getD 0 undef) (ins.getD 7 undef), fun ins => fr4 (reflQ (matOf (ins.getD 0 undef) (ins.getD 7 undef)) (okOf (ins.getD 0 undef) (ins.getD 7 undef)) (q3 ins 1) (q3 ins 4))⟩
theorem as_iFilmReflected (ins : List Value) (ht : TypedL [.sl, .int .i64, .int .i64, .int .i64, .int .i64, .int .i64, .int .i64, .row .i64 4] ins) (hp : G_iFilmReflected.pre ins) : F_iFilmReflected.pre ins ∧ F_iFilmReflected.out ins = G_iFilmReflected.out ins := by
  obtain ⟨x, r, rfl, hx, ht1⟩ := TypedL_cons ht
  obtain ⟨a0, r, rfl, _, ht2⟩ := int_cons ht1
  obtain ⟨a1, r, rfl, _, ht3⟩ := int_cons ht2
  obtain ⟨a2, r, rfl, _, ht4⟩ := int_cons ht3
  obtain ⟨b0', r, rfl, _, ht5⟩ := int_cons ht4
  obtain ⟨b1, r, rfl, _, ht6⟩ := int_cons ht5
  obtain ⟨b2, r, rfl, _, ht7⟩ := int_cons ht6
  obtain ⟨c, r, rfl, hc, ht8⟩ := TypedL_cons ht7
  obtain rfl := TypedL_nil ht8
  have hp : Fit4 x c := hp
  have hG : G_iFilmReflected.out [x, .int .i64 a0, .int .i64 a1, .int .i64 a2, .int .i64 b0', .int .i64 b1, .int .i64 b2, c] = fr4 (reflQ (matOf x c) (okOf x c) (a0, a1, a2) (b0', b1, b2)) := rfl
  rw [hG]
  simp only [F_iFilmReflected, tr_iFilmReflected, Fs_iFilmReflected, G_film, G_need, G_less, G_over, G_gotFrac, hp, q3, fr4, fr3, fl3, ofTree, okT, okE, evalT, evalE, evsIn, ev, callF, preF, hasF, needs, i0, b0, toI_int, toB_bool, List.getD_cons_zero, List.getD_cons_succ, List.cons_append, List.nil_append, List.replicate, if_true, if_false, Bool.false_eq_true, and_true, true_and, implies_true, forall_const, false_implies, cmpI, Bool.not_true, Bool.not_false, Bool.true_and, Bool.false_and, Bool.and_true, Bool.and_false, reduceIte, List.append_nil, reduceCtorEq]
  unfold reflQ
  cases he : filmE (matOf x c) (okOf x c) (a0, a1, a2) (b0', b1, b2) with
  | none => simp [filmF_none he, gotV, zq]
  | some y =>
    obtain ⟨p, d, s⟩ := y
    simp only [filmF_some he, Option.bind_some]
    cases hl : lessQ p d with
    | none => simp [gotV, zq]
    | some u => cases ho : overQ u s <;> simp [gotV, zq, ho, i0]

def tr_pick : Tr :=
  (.ite (.ite (.cmp .lss (.var 0) (.int .i64 1)) (.bool true) (.cmp .eql (.len (.var 1)) (.int .i64 0)))
  (.ret [(.int .i64 0), (.var 1), (.ar .add .i64 (.var 2) (.int .i64 1))])
  (.ite (.cmp .lss (.ar .sub .i64 (.ar .add .i64 (.var 2) (.int .i64 1)) (.int .i64 1)) (.len (.var 1)))
   (.evs [.need [(.inb (.var 3) (.ar .sub .i64 (.ar .add .i64 (.var 2) (.int .i64 1)) (.int .i64 1)) 1)],
      .need [(.cmp .neq (.var 0) (.int .i64 0))]]
    (.ret [(.ar .rem .i64 (.conv .i64 (.sel (.var 3) (.ar .sub .i64 (.ar .add .i64 (.var 2) (.int .i64 1)) (.int .i64 1)) 1 0)) (.var 0)), (.var 1), (.ar .add .i64 (.var 2) (.int .i64 1))]))
   (.evs [.need [(.cmp .neq (.len (.var 1)) (.int .i64 0)), (.inb (.var 3) (.ar .rem .i64 (.ar .sub .i64 (.ar .add .i64 (.var 2) (.int .i64 1)) (.int .i64 1)) (.len (.var 1))) 1), (.cmp .neq (.len (.var 1)) (.int .i64 0)), (.inb (.var 3) (.ar .rem .i64 (.ar .add .i64 (.ar .mul .i64 (.ar .sub .i64 (.ar .add .i64 (.var 2) (.int .i64 1)) (.int .i64 1)) (.int .i64 7)) (.int .i64 3)) (.len (.var 1))) 1), (.cmp .neq (.len (.var 1)) (.int .i64 0))],
      .need [(.cmp .neq (.len (.var 1)) (.int .i64 0)), (.inb (.var 3) (.ar .rem .i64 (.ar .sub .i64 (.ar .add .i64 (.var 2) (.int .i64 1)) (.int .i64 1)) (.len (.var 1))) 1), (.cmp .neq (.len (.var 1)) (.int .i64 0)), (.inb (.var 3) (.ar .rem .i64 (.ar .add .i64 (.ar .mul .i64 (.ar .sub .i64 (.ar .add .i64 (.var 2) (.int .i64 1)) (.int .i64 1)) (.int .i64 7)) (.int .i64 3)) (.len (.var 1))) 1), (.cmp .neq (.len (.var 1)) (.int .i64 0))]]
    (.evs [.need [(.bool true)]]
    (.evs [.need [(.cmp .neq (.var 0) (.int .i64 0))]]
    (.ret [(.ar .rem .i64 (.ar .xor .i64 (.ar .add .i64 (.ar .add .i64 (.ar .add .i64 (.ar .mul .i64 (.conv .i64 (.sel (.var 3) (.ar .rem .i64 (.ar .sub .i64 (.ar .add .i64 (.var 2) (.int .i64 1)) (.int .i64 1)) (.len (.var 1))) 1 0)) (.int .i64 131)) (.ar .mul .i64 (.conv .i64 (.sel (.var 3) (.ar .rem .i64 (.ar .add .i64 (.ar .mul .i64 (.ar .sub .i64 (.ar .add .i64 (.var 2) (.int .i64 1)) (.int .i64 1)) (.int .i64 7)) (.int .i64 3)) (.len (.var 1))) 1 0)) (.int .i64 1117))) (.ar .mul .i64 (.ar .sub .i64 (.ar .add .i64 (.var 2) (.int .i64 1)) (.int .i64 1)) (.int .i64 29))) (.ar .mul .i64 (.ar .quo .i64 (.ar .sub .i64 (.ar .add .i64 (.var 2) (.int .i64 1)) (.int .i64 1)) (.len (.var 1))) (.int .i64 53))) (.ar .quo .i64 (.ar .add .i64 (.ar .add .i64 (.ar .add .i64 (.ar .mul .i64 (.conv .i64 (.sel (.var 3) (.ar .rem .i64 (.ar .sub .i64 (.ar .add .i64 (.var 2) (.int .i64 1)) (.int .i64 1)) (.len (.var 1))) 1 0)) (.int .i64 131)) (.ar .mul .i64 (.conv .i64 (.sel (.var 3) (.ar .rem .i64 (.ar .add .i64 (.ar .mul .i64 (.ar .sub .i64 (.ar .add .i64 (.var 2) (.int .i64 1)) (.int .i64 1)) (.int .i64 7)) (.int .i64 3)) (.len (.var 1))) 1 0)) (.int .i64 1117))) (.ar .mul .i64 (.ar .sub .i64 (.ar .add .i64 (.var 2) (.int .i64 1)) (.int .i64 1)) (.int .i64 29))) (.ar .mul .i64 (.ar .quo .i64 (.ar .sub .i64 (.ar .add .i64 (.var 2) (.int .i64 1)) (.int .i64 1)) (.len (.var 1))) (.int .i64 53))) (.int .i64 64))) (.var 0)), (.var 1), (.ar .add .i64 (.var 2) (.int .i64 1))]))))))
def Fs_pick : List Fun1 := []
def F_pick : Fun1 := ofTree Fs_pick tr_pick
theorem pick_tree {arr : Array Value} {b : Value} {n p L : Int} (hL : lenV b = L) (hs : L = (arr.size : Int)) (hL2 : L ≤ 9223372036854775807) (hn : I64 n) (hp : 0 ≤ p ∧ p ≤ 1000000000) (hb : ∀ i : Nat, 0 ≤ toI (arr.getD i undef) ∧ toI (arr.getD i undef) ≤ 255) :
    okT [] tr_pick [.int .i64 n, b, .int .i64 p, .agg arr] ∧ ∃ x, evalT [] tr_pick [.int .i64 n, b, .int .i64 p, .agg arr] = [.int .i64 x, b, .int .i64 (p + 1)] ∧ 0 ≤ x ∧ x ≤ max 0 (n - 1) := by
  have w1 : IntKind.i64.wrap (p + 1) = p + 1 := wrap_in (by omega)
  have w2 : IntKind.i64.wrap (p + 1 - 1) = p := by rw [show p + 1 - 1 = p by omega]; exact wrap_in (by omega)
  have wb : ∀ i : Nat, IntKind.i64.wrap (toI (arr.getD i undef)) = toI (arr.getD i undef) := fun i => wrap_in (by have := hb i; omega)
  unfold tr_pick
  simp only [okT, evalT, okE, evalE, needs, evsIn, ev, cmpI, arI, toI_int, List.getD_cons_zero, List.getD_cons_succ, w1, w2, hL, toB_bool, Value.cells, Nat.mul_one, Nat.add_zero, wb]
  by_cases c1 : n < 1
  · simp only [c1, decide_true, if_true, toB_bool]
    exact ⟨trivial, 0, rfl, by omega, by omega⟩
  by_cases c2 : L = 0
  · simp only [c1, c2, decide_false, Bool.false_eq_true, if_false, toB_bool, beq_self_eq_true, if_true]
    exact ⟨trivial, 0, rfl, by omega, by omega⟩
  have c3 : (L == 0) = false := by simp [c2]
  simp only [c1, c3, decide_false, Bool.false_eq_true, if_false, toB_bool]
  have n0 : (n != 0) = true := by simp; omega
  by_cases c4 : p < L
  · simp only [c4, decide_true, if_true]
    have h1 := hb p.toNat
    obtain ⟨r1, r2⟩ := tmod_rng (n := n) h1.1 (by omega)
    refine ⟨⟨⟨⟨by rw [Value.bool.injEq, decide_eq_true_eq]; omega, trivial⟩, ⟨by rw [n0], trivial⟩, trivial⟩, trivial⟩, _, rfl, r1, by omega⟩
  · simp only [c4, decide_false, Bool.false_eq_true, if_false]
    have w3 : IntKind.i64.wrap (p * 7) = p * 7 := wrap_in (by omega)
    have w4 : IntKind.i64.wrap (p * 7 + 3) = p * 7 + 3 := wrap_in (by omega)
    obtain ⟨a1, a2⟩ := tmod_rng (x := p) (n := L) (by omega) (by omega)
    obtain ⟨b1, b2⟩ := tmod_rng (x := p * 7 + 3) (n := L) (by omega) (by omega)
    obtain ⟨d1, d2⟩ := tdiv_range (x := p) (n := L) (by omega) (by omega)
    simp only [w3, w4]
    have y1 := hb (p.tmod L).toNat
    have y2 := hb ((p * 7 + 3).tmod L).toNat
    generalize toI (arr.getD (p.tmod L).toNat undef) = u at y1 ⊢
    generalize toI (arr.getD ((p * 7 + 3).tmod L).toNat undef) = v at y2 ⊢
    generalize p.tdiv L = z at d1 d2 ⊢
    rw [wrap_in (z := u * 131) (by omega), wrap_in (z := v * 1117) (by omega), wrap_in (z := p * 29) (by omega), wrap_in (z := z) (by omega), wrap_in (z := z * 53) (by omega),
      wrap_in (z := u * 131 + v * 1117) (by omega), wrap_in (z := u * 131 + v * 1117 + p * 29) (by omega), wrap_in (z := u * 131 + v * 1117 + p * 29 + z * 53) (by omega)]
    have hx : 0 ≤ u * 131 + v * 1117 + p * 29 + z * 53 ∧ u * 131 + v * 1117 + p * 29 + z * 53 ≤ 4611686018427387903 := by omega
    generalize u * 131 + v * 1117 + p * 29 + z * 53 = X at hx ⊢
    obtain ⟨t1, t2⟩ := tdiv_range (x := X) (n := 64) hx.1 (by omega)
    rw [wrap_in (z := X.tdiv 64) (by omega)]
    have hxr := xor_nonneg hx (y := X.tdiv 64) (by omega)
    obtain ⟨r1, r2⟩ := tmod_rng (n := n) hxr.1 (by omega)
    have L0 : (L != 0) = true := by simp [c2]
    refine ⟨⟨⟨⟨by rw [L0], by rw [Value.bool.injEq, decide_eq_true_eq]; omega, by rw [L0], by rw [Value.bool.injEq, decide_eq_true_eq]; omega, by rw [L0], trivial⟩, ⟨by rw [L0], by rw [Value.bool.injEq, decide_eq_true_eq]; omega, by rw [L0], by rw [Value.bool.injEq, decide_eq_true_eq]; omega, by rw [L0], trivial⟩, trivial⟩, ⟨⟨trivial, trivial⟩, trivial⟩, ⟨⟨by rw [n0], trivial⟩, trivial⟩, trivial⟩, _, rfl, r1, by omega⟩
def G_pick (cb : CodeB) : Fun1 := ⟨fun ins => goodSl cb (ins.getD 1 undef) ∧ (∃ n, ins.getD 0 undef = .int .i64 n ∧ I64 n) ∧ ∃ p, ins.getD 2 undef = .int .i64 p ∧ 0 ≤ p ∧ p ≤ 1000000000, fun ins => F_pick.out [ins.getD 0 undef, ins.getD 1 undef, ins.getD 2 undef, rowU cb (ins.getD 1 undef)]⟩
theorem pick_facts {cb : CodeB} (hk : CodeOk cb) {n p : Int} {b : Value} (hb : goodSl cb b) (hn : I64 n) (hp : 0 ≤ p ∧ p ≤ 1000000000) :
    F_pick.pre [.int .i64 n, b, .int .i64 p, rowU cb b] ∧ ∃ x, F_pick.out [.int .i64 n, b, .int .i64 p, rowU cb b] = [.int .i64 x, b, .int .i64 (p + 1)] ∧ 0 ≤ x ∧ x ≤ max 0 (n - 1) := by
  obtain ⟨a, len, cap, arr, hv, hr, hsz, hlen, harr⟩ := goodSl_row hk hb
  rw [hr]
  exact pick_tree (L := len) (by rw [hv]; rfl) (by omega) (by omega) hn hp (row_byte harr)
theorem ghost_pick {cb : CodeB} (hk : CodeOk cb) (n b p : Value) (ht : TypedL [.int .i64, .sl, .int .i64] [n, b, p]) (h : (G_pick cb).pre [n, b, p]) : goodSl cb b ∧ F_pick.pre [n, b, p, rowU cb b] ∧ F_pick.out [n, b, p, rowU cb b] = (G_pick cb).out [n, b, p] := by
  obtain ⟨h1, ⟨n, hn, hn'⟩, p, hp, hp'⟩ := h
  have hn : _ = Value.int .i64 n := hn
  have hp : _ = Value.int .i64 p := hp
  simp only [List.getD_cons_zero, List.getD_cons_succ] at hn hp h1
  subst hn hp
  exact ⟨h1, (pick_facts hk h1 hn' hp').1, rfl⟩
theorem aok_pick {cb : CodeB} (hk : CodeOk cb) : AOK cb (G_pick cb) aPick := by
  intro I O h ins hi
  match I, ins, hi, h with
  | [.itv lo hi', .good, .itv a b], [n, s, p], ⟨⟨n', hn, n1, n2⟩, hs, ⟨p', hp, p1, p2⟩, _⟩, h =>
    simp only [aPick] at h
    split at h
    · rename_i hc
      cases h
      simp only [Bool.and_eq_true, decide_eq_true_eq] at hc
      subst hn hp
      have hn64 : I64 n' := by unfold I64; omega
      have hpp : 0 ≤ p' ∧ p' ≤ 1000000000 := by omega
      obtain ⟨q1, x, q2, q3, q4⟩ := pick_facts hk hs hn64 hpp
      refine ⟨⟨hs, ⟨n', rfl, hn64⟩, p', rfl, hpp⟩, ?_⟩
      have e : (G_pick cb).out [.int .i64 n', s, .int .i64 p'] = [.int .i64 x, s, .int .i64 (p' + 1)] := q2
      rw [e]
      exact ⟨⟨x, rfl, q3, by omega⟩, hs, ⟨p' + 1, rfl, by omega, by omega⟩, trivial⟩
    · cases h

abbrev F_pickC := G_pick
abbrev A_pickC := aPick
theorem aok_pickC {cb : CodeB} (hk : CodeOk cb) : AOK cb (G_pick cb) aPick := aok_pick hk

abbrev F_openC := G_open
abbrev A_openC := aOpen
theorem aok_openC {cb : CodeB} (_ : CodeOk cb) : AOK cb (G_open cb) aOpen := aok_open

def tr_l91Frac : Tr :=
  (.evs [.call 0 [(.int .i64 40), (.var 0), (.var 1)] none 3]
  (.ite (.cmp .eql (.var 2) (.int .i64 0))
  (.ret [(.int .i64 2), (.int .i64 4), (.int .i64 2), (.var 3), (.var 4)])
  (.ite (.cmp .eql (.var 2) (.int .i64 1))
   (.ret [(.int .i64 1), (.int .i64 0), (.int .i64 0), (.var 3), (.var 4)])
   (.ite (.cmp .eql (.var 2) (.int .i64 2))
    (.ret [(.int .i64 2000000000), (.int .i64 1), (.int .i64 7), (.var 3), (.var 4)])
    (.ite (.cmp .eql (.var 2) (.int .i64 3))
     (.ret [(.int .i64 0), (.int .i64 0), (.int .i64 1), (.var 3), (.var 4)])
     (.evs [.call 0 [(.int .i64 13), (.var 3), (.var 4)] none 3,
        .call 0 [(.int .i64 9), (.var 6), (.var 7)] none 3,
        .call 0 [(.int .i64 2), (.var 9), (.var 10)] none 3,
        .call 0 [(.int .i64 5), (.var 12), (.var 13)] none 3,
        .call 1 [(.ar .sub .i64 (.var 5) (.int .i64 6)), (.ar .mul .i64 (.ar .sub .i64 (.var 8) (.int .i64 4)) (.var 11)), (.ar .add .i64 (.int .i64 1) (.var 14))] none 4]
      (.ret [(.var 17), (.var 18), (.var 19), (.var 15), (.var 16)])))))))
def Fs_l91Frac (cb : CodeB) : List Fun1 := [(F_pickC cb), G_l2Low]
def F_l91Frac (cb : CodeB) : Fun1 := ofTree (Fs_l91Frac cb) tr_l91Frac
def A_l91Frac : AF := absT [A_pickC, A_l2Low] tr_l91Frac
theorem aok_l91Frac {cb : CodeB} (hk : CodeOk cb) : AOK cb (F_l91Frac cb) A_l91Frac := tree_aok (AOKs.cons (aok_pickC hk) (AOKs.cons aok_l2Low AOKs.nil)) tr_l91Frac

def tr_revL : Tr :=
  (.evs [.app (.val (.agg #[])) 4 (.cells [])]
  (.lp 0 [(.var 2), (.ar .sub .i64 (.len (.var 0)) (.int .i64 1)), (.val (.agg #[]))] [.sl, .int .i64, .row .i64 4]
  (.ite (.cmp .geq (.var 5) (.int .i64 0))
   (.evs [.need [(.inb (.var 1) (.var 5) 4)],
      .app (.var 6) 4 (.cells [(.sel (.var 1) (.var 5) 4 0), (.sel (.var 1) (.var 5) 4 1), (.sel (.var 1) (.var 5) 4 2), (.sel (.var 1) (.var 5) 4 3)])]
    (.next 0 [(.var 7), (.ar .sub .i64 (.var 5) (.int .i64 1)), (.var 8)]))
   (.ret [(.var 4), (.var 6)]))))
def Fs_revL : List Fun1 := []
def SP_revL : Spec := revSpec
theorem sat_revL (P : Program) (ins : List Value) (K : List Value → Prop) (ht : TypedL [.sl, .row .i64 4] ins) (h : SP_revL ins K) : sat P (specsOf Fs_revL) tr_revL ins [] K := by
  obtain ⟨x, c, rfl, hx, hcT⟩ := two_of ht
  obtain ⟨hf, hn, hK⟩ := h
  obtain ⟨a, n, cap, rfl, hc, hnn⟩ : Fit4 x c := hf
  have hn : n ≤ 1048576 := hn
  refine app_empty (by omega) fun a2 cap2 => ?_
  refine rev_loop (env := [.slice a n cap, c, .slice a2 0 cap2, .agg #[]]) (R := [.var 4, .var 6]) (c := c) (n := n) rfl (by simp) hc hn (a0 := a2) (cap0 := cap2) ?_ (fun b cp => hK b cp)
  have hw : IntKind.i64.wrap ((n : Int) - 1) = (n : Int) - 1 := wrap_in (by omega)
  show [Value.slice a2 0 cap2, .int .i64 (IntKind.i64.wrap ((n : Int) - 1)), .agg #[]] = _
  rw [hw]

def tr_l92Index : Tr :=
  (.evs [.call 0 [(.int .i64 6), (.var 0), (.var 1)] none 3]
  (.ite (.cmp .eql (.var 2) (.int .i64 0))
  (.evs [.call 1 [(.var 3), (.var 4)] none 5]
   (.ret [(.var 5), (.var 6), (.var 7), (.var 8), (.var 9)]))
  (.evs [.call 0 [(.int .i64 5), (.var 3), (.var 4)] none 3,
     .call 0 [(.int .i64 3), (.var 6), (.var 7)] none 3,
     .call 0 [(.int .i64 2), (.var 9), (.var 10)] none 3,
     .call 0 [(.int .i64 2), (.var 12), (.var 13)] none 3,
     .call 2 [(.ar .add .i64 (.int .i64 2) (.var 5)), (.ar .mul .i64 (.ar .sub .i64 (.int .i64 1) (.var 8)) (.var 11)), (.ar .add .i64 (.int .i64 1) (.var 14))] none 4]
   (.ret [(.var 17), (.var 18), (.var 19), (.var 15), (.var 16)]))))
def Fs_l92Index (cb : CodeB) : List Fun1 := [(F_pickC cb), (F_l91Frac cb), G_l2Low]
def F_l92Index (cb : CodeB) : Fun1 := ofTree (Fs_l92Index cb) tr_l92Index
def A_l92Index : AF := absT [A_pickC, A_l91Frac, A_l2Low] tr_l92Index
theorem aok_l92Index {cb : CodeB} (hk : CodeOk cb) : AOK cb (F_l92Index cb) A_l92Index := tree_aok (AOKs.cons (aok_pickC hk) (AOKs.cons (aok_l91Frac hk) (AOKs.cons aok_l2Low AOKs.nil))) tr_l92Index

def tr_l92Film : Tr :=
  (.evs [.app (.val (.agg #[])) 4 (.cells [])]
  (.evs [.call 0 [(.int .i64 4), (.var 0), (.var 1)] none 3]
  (.lp 0 [(.var 2), (.int .i64 0), (.var 5), (.var 6), (.val (.agg #[]))] [.sl, .int .i64, .sl, .int .i64, .row .i64 4]
  (.ite (.cmp .lss (.var 8) (.var 4))
   (.evs [.call 1 [(.var 9), (.var 10)] none 5,
      .call 0 [(.int .i64 4), (.var 15), (.var 16)] none 3,
      .app (.var 11) 4 (.cells [(.var 12), (.var 13), (.var 14), (.var 17)])]
    (.next 0 [(.var 20), (.ar .add .i64 (.var 8) (.int .i64 1)), (.var 18), (.var 19), (.var 21)]))
   (.evs [.call 0 [(.int .i64 24), (.var 9), (.var 10)] none 3]
    (.ite (.cmp .eql (.var 12) (.int .i64 0))
    (.evs [.app (.var 11) 4 (.cells [(.int .i64 1), (.int .i64 0), (.int .i64 1), (.int .i64 4)])]
     (.ret [(.var 15), (.var 13), (.var 14), (.var 16)]))
    (.ret [(.var 7), (.var 13), (.var 14), (.var 11)])))))))
def Ss_l92Film (cb : CodeB) : List Spec := [(F_pickC cb).spec, (F_l92Index cb).spec]
def SP_l92Film (cb : CodeB) : Spec := filmSpec cb
theorem idx_chk : ∀ H : Int, (H = 1000 ∨ H = 3000) → ∀ j : Nat, j < 4 → chk5 (A_l92Index [.good, .itv 0 (H + 100 * j + 1)]) (H + 100 * j + 60) = true := by
  rintro H hH j hj
  rcases hH with rfl | rfl <;> rcases (by omega : j = 0 ∨ j = 1 ∨ j = 2 ∨ j = 3) with rfl | rfl | rfl | rfl <;> kernel_rfl
theorem pick_use {cb : CodeB} (hk : CodeOk cb) {m : Int} (hm : 1 ≤ m) (hm2 : m ≤ 1000) {b : Value} {z : Int} (hb : goodSl cb b) (h0 : 0 ≤ z) (hz : z ≤ 1000000000) {K : List Value → Prop} (hK : ∀ x, 0 ≤ x → x ≤ m - 1 → K [.int .i64 x, b, .int .i64 (z + 1)]) : (G_pick cb).spec [.int .i64 m, b, .int .i64 z] K := by
  have hn : I64 m := by unfold I64; omega
  obtain ⟨_, x, q2, q3, q4⟩ := pick_facts hk hb hn ⟨h0, hz⟩
  refine ⟨⟨hb, ⟨m, rfl, hn⟩, z, rfl, h0, hz⟩, ?_⟩
  have e : (G_pick cb).out [.int .i64 m, b, .int .i64 z] = [.int .i64 x, b, .int .i64 (z + 1)] := q2
  rw [e]
  exact hK x q3 (by omega)
theorem row_snoc {c : Value} {vs : List Value} (h : HasTy (.row .i64 4) c) (hl : vs.length = 4) (hv : ∀ v ∈ vs, ∃ z, v = .int .i64 z ∧ IntKind.i64.wrap z = z) : HasTy (.row .i64 4) (.agg (c.cells ++ vs.toArray)) := by
  obtain ⟨arr, rfl, h1, h2⟩ := h
  refine ⟨_, rfl, ?_, fun x hx => ?_⟩
  · simp only [Value.cells, Array.size_append, List.size_toArray, hl]; omega
  · simp only [Value.cells, Array.mem_append, List.mem_toArray] at hx
    exact hx.elim (h2 x) (hv x)
set_option maxHeartbeats 1000000 in
theorem sat_l92Film (P : Program) (cb : CodeB) (hk : CodeOk cb) (ins : List Value) (K : List Value → Prop) (ht : TypedL [.sl, .int .i64] ins) (h : SP_l92Film cb ins K) : sat P (Ss_l92Film cb) tr_l92Film ins [] K := by
  obtain ⟨b, z, B, rfl, hb, h0, hz, hB, hK⟩ := h
  have hBb : 1000 ≤ B ∧ B ≤ 3000 := by omega
  refine evs_step (app_empty (by omega) fun a2 cap2 => evs_nil (evs_step (call_step rfl (pick_use hk (m := 4) (by omega) (by omega) hb h0 (by omega) fun nn n0 n1 => evs_nil ?_))))
  refine ⟨fun vs => ∃ (j : Nat) (a : Option Addr) (cap : Nat) (b' : Value) (z' : Int) (arr : Array Value), (j : Int) ≤ nn ∧ vs = [.slice a j cap, .int .i64 j, b', .int .i64 z', .agg arr] ∧ arr.size = j * 4 ∧ goodSl cb b' ∧ 0 ≤ z' ∧ z' ≤ B + 100 * j + 1, fun vs => (nn - toI (vs.getD 1 undef)).toNat, ?_, ?_⟩
  · exact ⟨0, a2, cap2, b, z + 1, #[], by omega, rfl, rfl, hb, by omega, by omega⟩
  · rintro vs hty ⟨j, a, cap, b', z', arr, hj, rfl, hs, hb', z0, z1⟩
    have hrow : HasTy (.row .i64 4) (.agg arr) := hty.2 4 _ rfl
    refine ⟨fun h => ?_, fun h => ?_⟩
    · have hlt : (j : Int) < nn := by
        have : decide ((j : Int) < nn) = true := Value.bool.inj h
        simpa using this
      have hj3 : j < 3 := by omega
      refine evs_step (call_step rfl (chk5_use (aok_l92Index hk) (idx_chk B hB j (by omega)) hb' z0 z1 fun u v w b1 q1 hb1 p0 p1 => ?_))
      refine call_step rfl (pick_use hk (m := 4) (by omega) (by omega) hb1 p0 (by omega) fun qt _ _ => ?_)
      refine app_step (xs := arr.toList) (ys := [u, v, w, .int .i64 qt]) (by simp [ev]) rfl (by simp [hs]; omega) fun a3 len3 cap3 _ hl => ?_
      have hl3 : len3 = j + 1 := by
        simp [hs] at hl
        omega
      subst hl3
      have hw : IntKind.i64.wrap ((j : Int) + 1) = ((j + 1 : Nat) : Int) := by rw [wrap_in (by omega)]; omega
      refine evs_nil ⟨⟨j + 1, a3, cap3, b1, q1 + 1, (arr.toList ++ [u, v, w, .int .i64 qt]).toArray, by omega, ?_, by simp [hs]; omega, hb1, by omega, by omega⟩, ?_⟩
      · show [Value.slice a3 (j + 1) cap3, .int .i64 (IntKind.i64.wrap ((j : Int) + 1)), b1, .int .i64 (q1 + 1), .agg (arr.toList ++ [u, v, w, .int .i64 qt]).toArray] = _
        rw [hw]
      · show (nn - toI (.int .i64 (IntKind.i64.wrap ((j : Int) + 1)))).toNat < (nn - toI (.int .i64 (j : Int))).toNat
        rw [hw]
        simp only [toI_int]
        omega
    · have hge : (j : Int) = nn := by
        have : decide ((j : Int) < nn) = false := Value.bool.inj h
        have : ¬ (j : Int) < nn := by simpa using this
        omega
      refine evs_step (call_step rfl (pick_use hk (m := 24) (by omega) (by omega) hb' z0 (by omega) fun x x0 x1 => evs_nil ?_))
      refine ⟨fun h2 => ?_, fun h2 => ?_⟩
      · refine app_step (xs := arr.toList) (ys := [.int .i64 1, .int .i64 0, .int .i64 1, .int .i64 4]) (by simp [ev]) rfl (by simp [hs]; omega) fun a3 len3 cap3 _ hl => ?_
        have hl3 : len3 = j + 1 := by
          simp [hs] at hl
          omega
        subst hl3
        have hr2 := row_snoc (vs := [.int .i64 1, .int .i64 0, .int .i64 1, .int .i64 4]) hrow rfl (fun v hv => by
          simp only [List.mem_cons, List.not_mem_nil, or_false] at hv
          rcases hv with rfl | rfl | rfl | rfl
          · exact ⟨1, rfl, by decide⟩
          · exact ⟨0, rfl, by decide⟩
          · exact ⟨1, rfl, by decide⟩
          · exact ⟨4, rfl, by decide⟩)
        have er : (Value.agg (arr.toList ++ [Value.int .i64 1, .int .i64 0, .int .i64 1, .int .i64 4]).toArray) = .agg ((Value.agg arr).cells ++ [Value.int .i64 1, .int .i64 0, .int .i64 1, .int .i64 4].toArray) := by simp [Value.cells]
        refine hK a3 (j + 1) cap3 (.agg (arr.toList ++ [Value.int .i64 1, .int .i64 0, .int .i64 1, .int .i64 4]).toArray) b' (z' + 1) (by omega) (by rw [er]; exact hr2) ?_ hb' (by omega) (by omega)
        simp [Value.cells, hs]; omega
      · exact hK a j cap _ b' (z' + 1) (by omega) hrow hs hb' (by omega) (by omega)

def tr_l92Between : Tr :=
  (.evs [.call 0 [(.var 0)] none 2]
  (.evs [.call 1 [(.var 1), (.var 2)] none 4]
  (.evs [.call 2 [(.var 4), (.var 5)] none 5]
  (.evs [.call 2 [(.var 10), (.var 11)] none 5]
  (.ret [(.var 3), (.var 7), (.var 8), (.var 9), (.var 12), (.var 13), (.var 14), (.var 6)])))))
def Ss_l92Between (cb : CodeB) : List Spec := [(F_openC cb).spec, (SP_l92Film cb), (F_l92Index cb).spec]
-- part betw
def betw (cb : CodeB) : Spec := fun ins K => drawPre cb ins ∧ ∀ a n cap c (u v w x y z : Value), n ≤ 4 → HasTy (.row .i64 4) c → c.cells.size = n * 4 → K [.slice a n cap, u, v, w, x, y, z, c]
theorem law_betw {P : Program} {cb : CodeB} {specs : List Spec} {t : Tr} {n : Nat} {ins : List Value} {K : List Value → Prop}
    (h : ∀ v a n cap c (g : Nat → Int), n ≤ 4 → HasTy (.row .i64 4) c → c.cells.size = n * 4 → sat P (tySpec [.sl, .int .i64, .int .i64, .int .i64, .int .i64, .int .i64, .int .i64, .row .i64 4] (betw cb) :: specs) t [v, .slice a n cap, .int .i64 (g 0), .int .i64 (g 1), .int .i64 (g 2), .int .i64 (g 3), .int .i64 (g 4), .int .i64 (g 5), c] [] K)
    (hp : (lawF cb).pre ins) (hK : K [.bool true]) :
    sat P (tySpec [.sl, .int .i64, .int .i64, .int .i64, .int .i64, .int .i64, .int .i64, .row .i64 4] (betw cb) :: specs) (.ite (.cmp .gtr (.len (.var 0)) (.int .i64 1048576)) (.ret [.bool true]) (.evs [.call 0 [.var 0] none n] t)) ins [] K := by
  obtain ⟨a, m, cap, rfl, hm, hg⟩ := hp
  refine ⟨fun _ => hK, fun hc => ?_⟩
  have hm2 : m ≤ 1048576 := by
    have hc : Value.bool (decide ((m : Int) > 1048576)) = .bool false := hc
    simp only [Value.bool.injEq, decide_eq_false_iff_not] at hc
    omega
  refine ⟨⟨_, rfl, hg hm2⟩, fun a' n' cap' c u v w x y z h1 h2 h3 hty => ?_⟩
  obtain ⟨_, r, hr, _, ht1⟩ := TypedL_cons hty
  cases hr
  obtain ⟨u', r, hr, _, ht2⟩ := int_cons ht1
  cases hr
  obtain ⟨v', r, hr, _, ht3⟩ := int_cons ht2
  cases hr
  obtain ⟨w', r, hr, _, ht4⟩ := int_cons ht3
  cases hr
  obtain ⟨x', r, hr, _, ht5⟩ := int_cons ht4
  cases hr
  obtain ⟨y', r, hr, _, ht6⟩ := int_cons ht5
  cases hr
  obtain ⟨z', r, hr, _, ht7⟩ := int_cons ht6
  cases hr
  exact h (.slice a m cap) a' n' cap' c (fun i => match i with | 0 => u' | 1 => v' | 2 => w' | 3 => x' | 4 => y' | _ => z') h1 h2 h3
def SP_l92Between (cb : CodeB) : Spec := betw cb
theorem sat_l92Between (P : Program) (cb : CodeB) (hk : CodeOk cb) (ins : List Value) (K : List Value → Prop) (ht : TypedL [.sl] ins) (h : SP_l92Between cb ins K) : sat P (Ss_l92Between cb) tr_l92Between ins [] K := by
  obtain ⟨⟨b, rfl, hv⟩, hK⟩ := h
  refine ⟨hv, ?_⟩
  refine ⟨openV b, 0, 1000, rfl, openV_good hv, by omega, by omega, .inl rfl, fun a n cap c b' z' h1 h2 h3 hb z0 z1 => ?_⟩
  refine evs_nil (evs_step (call_step rfl (chk5_use (H0 := 2000) (H := 2100) (aok_l92Index hk) (by kernel_rfl) hb z0 (by omega) fun u v w b1 q1 hb1 p0 p1 => ?_)))
  refine evs_nil (evs_step (call_step rfl (chk5_use (H0 := 2100) (H := 2200) (aok_l92Index hk) (by kernel_rfl) hb1 p0 (by omega) fun x y z b2 q2 hb2 q0 q1 => ?_)))
  exact evs_nil (hK a n cap c u v w x y z h1 h2 h3)

def tr_realFilm : Tr :=
  (.lp 0 [(.int .i64 0)] [.int .i64]
  (.ite (.cmp .lss (.var 2) (.len (.var 0)))
   (.evs [.need [(.inb (.var 1) (.var 2) 4)]]
    (.ite (.cmp .neq (.sel (.var 1) (.var 2) 4 1) (.int .i64 0))
    (.ret [(.bool false)])
    (.next 0 [(.ar .add .i64 (.var 2) (.int .i64 1))])))
   (.ret [(.bool true)])))
def Fs_realFilm : List Fun1 := []
def F_realFilm : Fun1 := ⟨fun ins => Fit4 (ins.getD 0 undef) (ins.getD 1 undef), fun ins => [.bool (allB (fun k => rq (ins.getD 1 undef) k 1 == 0) 0 (rlen (ins.getD 0 undef)))]⟩
theorem sat_realFilm (P : Program) (ins : List Value) (K : List Value → Prop) (ht : TypedL [.sl, .row .i64 4] ins) (hp : F_realFilm.pre ins) (hK : K (F_realFilm.out ins)) : sat P (specsOf Fs_realFilm) tr_realFilm ins [] K := by
  obtain ⟨x, c, rfl, hx, hcT⟩ := two_of ht
  obtain ⟨a, n, cap, rfl, hc, hn⟩ : Fit4 x c := hp
  have hK : K [.bool (allB (fun k => rq c k 1 == 0) 0 n)] := hK
  refine ⟨fun vs => ∃ k : Nat, vs = [.int .i64 k] ∧ k ≤ n ∧ allB (fun k => rq c k 1 == 0) 0 k = true, fun vs => n - (toI (vs.getD 0 undef)).toNat, ⟨0, rfl, Nat.zero_le _, rfl⟩, ?_⟩
  rintro vs hty ⟨k, rfl, hk, hall⟩
  refine ⟨fun h => ?_, fun h => ?_⟩
  · have hlt : k < n := by
      have : decide ((k : Int) < (n : Int)) = true := Value.bool.inj h
      simpa using this
    have hin := inb_ok hc hlt
    refine ⟨fun e he => by rw [List.mem_singleton.1 he]; exact hin, fun h2 => ?_, fun h2 => ?_⟩
    · have h2 : (rq c k 1 != 0) = true := Value.bool.inj h2
      rw [allB_not hlt (by simpa using h2)] at hK
      exact hK
    · have h2 : (rq c k 1 != 0) = false := Value.bool.inj h2
      refine ⟨⟨k + 1, congrArg (fun z => [Value.int .i64 z]) (wrap_next hlt hn), by omega, ?_⟩, ?_⟩
      · rw [allB_snoc, hall, Nat.zero_add]; simpa using h2
      · show n - (toI (.int .i64 (IntKind.i64.wrap ((k : Int) + 1)))).toNat < n - (toI (.int .i64 (k : Int))).toNat
        rw [wrap_next hlt hn]
        simp only [toI_int, Int.toNat_natCast]
        omega
  · have hge : ¬ k < n := by
      have : decide ((k : Int) < (n : Int)) = false := Value.bool.inj h
      simpa using this
    obtain rfl : k = n := by omega
    rw [hall] at hK
    exact hK

def tr_iFracWide : Tr :=
  (.evs [.call 0 [(.var 0), (.var 1), (.var 2)] none 1]
  (.ite (.not (.var 3))
  (.ret [(.val (.complex .f64 0 0)), (.bool false)])
  (.evs [.prim (.fa .quo .f64) [(.itf .f64 (.var 0)), (.itf .f64 (.var 2))],
     .prim (.fa .quo .f64) [(.itf .f64 (.var 1)), (.itf .f64 (.var 2))]]
   (.ret [(.mkc (.var 4) (.var 5)), (.bool true)]))))
def Fs_iFracWide : List Fun1 := [G_iFracValid]
def SP_iFracWide : Spec := fWideSpec
theorem sat_iFracWide (P : Program) (ins : List Value) (K : List Value → Prop) (ht : TypedL [.int .i64, .int .i64, .int .i64] ins) (h : SP_iFracWide ins K) : sat P (specsOf Fs_iFracWide) tr_iFracWide ins [] K := by
  obtain ⟨a, b, c, rfl, _⟩ := ints3 ht
  obtain ⟨h1, h2⟩ := h
  have h1 : validQ (a, b, c) = true → K [cxv (idxF (a, b, c)), .bool true] := h1
  have h2 : validQ (a, b, c) = false → K [cxv (0, 0), .bool false] := h2
  refine evs_step (call_step (sp := G_iFracValid.spec) rfl ⟨trivial, evs_nil ?_⟩)
  show sat P _ _ ([Value.int .i64 a, .int .i64 b, .int .i64 c] ++ [.bool (validQ (a, b, c))]) _ K
  cases hv : validQ (a, b, c) with
  | false => exact sat_ite1 rfl (h2 hv)
  | true =>
    obtain ⟨e1, e2⟩ := fWide_parts hv
    exact sat_ite0 rfl (evs_step (fa_step rfl rfl e1 (fa_step rfl rfl e2 (evs_nil (h1 hv)))))

def tr_sFracWide : Tr :=
  (.evs [.call 0 [(.var 0), (.var 1), (.var 2)] none 1]
  (.ite (.not (.var 3))
  (.ret [(.val (.complex .f64 0 0)), (.bool false)])
  (.evs [.prim (.fa .quo .f64) [(.itf .f64 (.var 0)), (.itf .f64 (.var 2))],
     .prim (.fa .quo .f64) [(.itf .f64 (.var 1)), (.itf .f64 (.var 2))]]
   (.ret [(.mkc (.var 4) (.var 5)), (.bool true)]))))
def Fs_sFracWide : List Fun1 := [G_sFracValid]
def SP_sFracWide : Spec := fWideSpec
theorem sat_sFracWide (P : Program) (ins : List Value) (K : List Value → Prop) (ht : TypedL [.int .i64, .int .i64, .int .i64] ins) (h : SP_sFracWide ins K) : sat P (specsOf Fs_sFracWide) tr_sFracWide ins [] K := by
  obtain ⟨a, b, c, rfl, _⟩ := ints3 ht
  obtain ⟨h1, h2⟩ := h
  have h1 : validQ (a, b, c) = true → K [cxv (idxF (a, b, c)), .bool true] := h1
  have h2 : validQ (a, b, c) = false → K [cxv (0, 0), .bool false] := h2
  refine evs_step (call_step (sp := G_sFracValid.spec) rfl ⟨trivial, evs_nil ?_⟩)
  show sat P _ _ ([Value.int .i64 a, .int .i64 b, .int .i64 c] ++ [.bool (validQ (a, b, c))]) _ K
  cases hv : validQ (a, b, c) with
  | false => exact sat_ite1 rfl (h2 hv)
  | true =>
    obtain ⟨e1, e2⟩ := fWide_parts hv
    exact sat_ite0 rfl (evs_step (fa_step rfl rfl e1 (fa_step rfl rfl e2 (evs_nil (h1 hv)))))

def tr_iWideTimes : Tr :=
  (.evs [.prim (.fa .mul .f64) [(.cre (.var 0)), (.cre (.var 1))],
    .prim (.fa .mul .f64) [(.cim (.var 0)), (.cim (.var 1))],
    .prim (.fa .sub .f64) [(.var 2), (.var 3)],
    .prim (.fa .mul .f64) [(.cre (.var 0)), (.cim (.var 1))],
    .prim (.fa .mul .f64) [(.cim (.var 0)), (.cre (.var 1))],
    .prim (.fa .add .f64) [(.var 5), (.var 6)]]
  (.ret [(.mkc (.var 4) (.var 7))]))
def Fs_iWideTimes : List Fun1 := []
def SP_iWideTimes : Spec := wTimesSpec
theorem sat_iWideTimes (P : Program) (ins : List Value) (K : List Value → Prop) (ht : TypedL [.cpx .f64, .cpx .f64] ins) (h : SP_iWideTimes ins K) : sat P (specsOf Fs_iWideTimes) tr_iWideTimes ins [] K := by
  obtain ⟨x, y, ⟨re, im⟩, rfl, e, hK⟩ := h
  obtain ⟨ac, bd, ad, bc, h1, h2, h3, h4, h5, h6⟩ := cmul_parts e
  exact evs_step (fa_step rfl rfl h1 (fa_step rfl rfl h2 (fa_step rfl rfl h3 (fa_step rfl rfl h4 (fa_step rfl rfl h5 (fa_step rfl rfl h6 (evs_nil hK)))))))

def tr_sWideTimes : Tr :=
  (.evs [.prim (.fa .mul .f64) [(.cre (.var 0)), (.cre (.var 1))],
    .prim (.fa .mul .f64) [(.cim (.var 0)), (.cim (.var 1))],
    .prim (.fa .sub .f64) [(.var 2), (.var 3)],
    .prim (.fa .mul .f64) [(.cre (.var 0)), (.cim (.var 1))],
    .prim (.fa .mul .f64) [(.cim (.var 0)), (.cre (.var 1))],
    .prim (.fa .add .f64) [(.var 5), (.var 6)]]
  (.ret [(.mkc (.var 4) (.var 7))]))
def Fs_sWideTimes : List Fun1 := []
def SP_sWideTimes : Spec := wTimesSpec
theorem sat_sWideTimes (P : Program) (ins : List Value) (K : List Value → Prop) (ht : TypedL [.cpx .f64, .cpx .f64] ins) (h : SP_sWideTimes ins K) : sat P (specsOf Fs_sWideTimes) tr_sWideTimes ins [] K := by
  obtain ⟨x, y, ⟨re, im⟩, rfl, e, hK⟩ := h
  obtain ⟨ac, bd, ad, bc, h1, h2, h3, h4, h5, h6⟩ := cmul_parts e
  exact evs_step (fa_step rfl rfl h1 (fa_step rfl rfl h2 (fa_step rfl rfl h3 (fa_step rfl rfl h4 (fa_step rfl rfl h5 (fa_step rfl rfl h6 (evs_nil hK)))))))

def tr_iWideOver : Tr :=
  (.evs [.prim (.ca .quo .f64) [(.var 0), (.var 1)]]
  (.ret [(.var 2)]))
def Fs_iWideOver : List Fun1 := []
def SP_iWideOver : Spec := wOverSpec
theorem sat_iWideOver (P : Program) (ins : List Value) (K : List Value → Prop) (ht : TypedL [.cpx .f64, .cpx .f64] ins) (h : SP_iWideOver ins K) : sat P (specsOf Fs_iWideOver) tr_iWideOver ins [] K := by
  obtain ⟨x, y, rfl, hK⟩ := h
  exact evs_step (fun v hv => evs_nil (hK v ⟨P, hv⟩))

def tr_sWideOver : Tr :=
  (.evs [.prim (.ca .quo .f64) [(.var 0), (.var 1)]]
  (.ret [(.var 2)]))
def Fs_sWideOver : List Fun1 := []
def SP_sWideOver : Spec := wOverSpec
theorem sat_sWideOver (P : Program) (ins : List Value) (K : List Value → Prop) (ht : TypedL [.cpx .f64, .cpx .f64] ins) (h : SP_sWideOver ins K) : sat P (specsOf Fs_sWideOver) tr_sWideOver ins [] K := by
  obtain ⟨x, y, rfl, hK⟩ := h
  exact evs_step (fun v hv => evs_nil (hK v ⟨P, hv⟩))

def tr_l8Wide : Tr :=
  (.evs [.call 0 [(.var 0), (.var 1), (.var 2)] none 2]
  (.ite (.cmp .eql (.var 3) (.int .i64 1))
  (.ite (.cmp .eql (.var 3) (.int .i64 1))
   (.evs [.call 1 [(.val (.complex .f64 0 4607182418800017408)), (.var 5)] none 1,
      .call 2 [(.var 8), (.var 6)] none 1]
    (.evs [.call 1 [(.val (.complex .f64 0 4607182418800017408)), (.var 6)] none 1,
      .call 1 [(.var 10), (.var 4)] none 1]
    (.ite (.cmp .geq (.var 3) (.int .i64 2))
    (.ret [(.fneg (.var 9)), (.fneg (.var 11))])
    (.ret [(.var 9), (.var 11)]))))
   (.ite (.cmp .geq (.var 3) (.int .i64 2))
    (.ret [(.fneg (.var 4)), (.fneg (.var 5))])
    (.ret [(.var 4), (.var 5)])))
  (.ite (.cmp .eql (.var 3) (.int .i64 3))
   (.evs [.call 1 [(.val (.complex .f64 0 4607182418800017408)), (.var 5)] none 1,
      .call 2 [(.var 8), (.var 6)] none 1]
    (.evs [.call 1 [(.val (.complex .f64 0 4607182418800017408)), (.var 6)] none 1,
      .call 1 [(.var 10), (.var 4)] none 1]
    (.ite (.cmp .geq (.var 3) (.int .i64 2))
    (.ret [(.fneg (.var 9)), (.fneg (.var 11))])
    (.ret [(.var 9), (.var 11)]))))
   (.ite (.cmp .geq (.var 3) (.int .i64 2))
    (.ret [(.fneg (.var 4)), (.fneg (.var 5))])
    (.ret [(.var 4), (.var 5)])))))
def Ss_l8Wide : List Spec := [SP_sFracWide, SP_sWideTimes, SP_sWideOver]
-- part wide
/-- The k-th layer's index. -/
def layI (c : Value) (k : Nat) : Q := (rq c k 0, rq c k 1, rq c k 2)
def wideOk (x c : Value) (a b : Q) : Bool := (allB (layP c) 0 (rlen x) && decide (lenV x ≤ 8)) && idxQ a && idxQ b
def wN (c : Value) (n k : Nat) : CF := idxF (layI c (n - 1 - k))
def wT (c : Value) (n k : Nat) : Int := rq c (n - 1 - k) 3
def wFilmSpec : Spec := fun ins K => Fit4 (ins.getD 0 undef) (ins.getD 7 undef) ∧
  (wideOk (ins.getD 0 undef) (ins.getD 7 undef) (q3 ins 1) (q3 ins 4) = true → ∀ v, WideRes (wN (ins.getD 7 undef) (rlen (ins.getD 0 undef))) (wT (ins.getD 7 undef) (rlen (ins.getD 0 undef))) (idxF (q3 ins 1)) (idxF (q3 ins 4)) (rlen (ins.getD 0 undef)) v → K [v, .bool true]) ∧
  (wideOk (ins.getD 0 undef) (ins.getD 7 undef) (q3 ins 1) (q3 ins 4) = false → K [cxv (0, 0), .bool false])
theorem idx_val {v : Q} (h : idxQ v = true) : validQ v = true ∧ ¬ (v.1 = 0 ∧ v.2.1 = 0) := by
  unfold idxQ at h
  rw [Bool.and_eq_true] at h
  refine ⟨h.1, fun hz => ?_⟩
  rw [hz.1, hz.2] at h
  simp at h
theorem layP_val {c : Value} {k : Nat} (h : layP c k = true) : idxQ (layI c k) = true ∧ 0 ≤ rq c k 3 ∧ rq c k 3 ≤ 3 := by
  unfold layP at h
  rw [Bool.and_eq_true] at h
  refine ⟨h.1, ?_⟩
  have := h.2
  simp only [inRg, Bool.and_eq_true, decide_eq_true_eq] at this
  exact this
/-- All that a film that is valid says. -/
theorem wide_facts {x c : Value} {a b : Q} {n : Nat} (hn : rlen x = n) (h : wideOk x c a b = true) : n ≤ 8 ∧ (∀ k, k < n → Dv (-36) 36 (wN c n k) ∧ 0 ≤ wT c n k ∧ wT c n k ≤ 3 ∧ validQ (layI c (n - 1 - k)) = true) ∧ idxQ a = true ∧ idxQ b = true ∧ BdC 36 (idxF a) ∧ BdC 36 (idxF b) := by
  unfold wideOk at h
  rw [hn] at h
  simp only [Bool.and_eq_true, decide_eq_true_eq] at h
  obtain ⟨⟨⟨h1, h2⟩, h3⟩, h4⟩ := h
  have h8 : n ≤ 8 := by unfold rlen at hn; omega
  obtain ⟨a1, a2⟩ := idx_val h3
  obtain ⟨b1, b2⟩ := idx_val h4
  refine ⟨h8, fun k hk => ?_, h3, h4, (idx_dv a1 a2).bd, (idx_dv b1 b2).bd⟩
  obtain ⟨p1, p2, p3⟩ := layP_val (allB_get h1 (n - 1 - k) (Nat.zero_le _) (by omega))
  obtain ⟨v1, v2⟩ := idx_val p1
  exact ⟨idx_dv v1 v2, p2, p3, v1⟩
theorem odd_ok {c : Value} {n k : Nat} {b : CF} (hn : n ≤ 8) (h : ∀ k, k < n → Dv (-36) 36 (wN c n k) ∧ 0 ≤ wT c n k ∧ wT c n k ≤ 3 ∧ validQ (layI c (n - 1 - k)) = true) (hb : BdC 36 b) (hk : k < n) : OddOk (wN c n k) (wRun (wN c n) (wT c n) b k).1 (wRun (wN c n) (wT c n) b k).2 := by
  obtain ⟨b1, b2⟩ := wRun_bd (qt := wT c n) hn (fun k hk => (h k hk).1) hb k (by omega)
  obtain ⟨e1, e2, e3, e4, _⟩ := odd_bd (h k hk).1 b1 b2 (by omega) (by omega)
  exact ⟨e1, e2, e3, e4⟩
theorem fw_use {ins : List Value} {v : Q} (he : q3 ins 0 = v) (hv : validQ v = true) {K : List Value → Prop} (hk : K [cxv (idxF v), .bool true]) : fWideSpec ins K := by
  subst he
  exact ⟨fun _ => hk, fun h => by rw [hv] at h; cases h⟩
theorem wf_use {ins : List Value} {K : List Value → Prop} {x c : Value} {a b : Q} {n : Nat} (e0 : ins.getD 0 undef = x) (e7 : ins.getD 7 undef = c) (ea : q3 ins 1 = a) (eb : q3 ins 4 = b) (hn : rlen x = n) (fit : Fit4 x c)
    (h1 : wideOk x c a b = true → ∀ v, WideRes (wN c n) (wT c n) (idxF a) (idxF b) n v → K [v, .bool true]) (h0 : wideOk x c a b = false → K [cxv (0, 0), .bool false]) : wFilmSpec ins K := by
  subst e0 e7 ea eb hn
  exact ⟨fit, h1, h0⟩
def SP_l8Wide : Spec := l8wSpec
theorem sat_l8Wide (P : Program) (ins : List Value) (K : List Value → Prop) (ht : TypedL [.int .i64, .int .i64, .int .i64, .int .i64, .cpx .f64, .cpx .f64] ins) (h : SP_l8Wide ins K) : sat P Ss_l8Wide tr_l8Wide ins [] K := by
  obtain ⟨a, r, rfl, _, t1⟩ := int_cons ht
  obtain ⟨b, r, rfl, _, t2⟩ := int_cons t1
  obtain ⟨c, r, rfl, _, t3⟩ := int_cons t2
  obtain ⟨qt, r, rfl, _, t4⟩ := int_cons t3
  obtain ⟨u, w, rfl, _, _⟩ := two_of t4
  obtain ⟨p, q, h1, h2, hv, hq, ⟨e1, e2, e3, e4⟩, hK⟩ := h
  have h1 : u = cxv p := h1
  have h2 : w = cxv q := h2
  subst h1 h2
  have hv : validQ (a, b, c) = true := hv
  have hq : 0 ≤ qt ∧ qt ≤ 3 := hq
  have hK : K [cxv (wStep (idxF (a, b, c)) qt p q).1, cxv (wStep (idxF (a, b, c)) qt p q).2] := hK
  have e2 : cQuoBits (wMul iF q).1 (wMul iF q).2 (idxF (a, b, c)).1 (idxF (a, b, c)).2 = some (wQuo (wMul iF q) (idxF (a, b, c))) := e2
  have e3 : cMulBits iF.1 iF.2 (idxF (a, b, c)).1 (idxF (a, b, c)).2 = some (wMul iF (idxF (a, b, c))) := e3
  have e4 : cMulBits (wMul iF (idxF (a, b, c))).1 (wMul iF (idxF (a, b, c))).2 p.1 p.2 = some (wMul (wMul iF (idxF (a, b, c))) p) := e4
  refine evs_step (call_step (sp := fWideSpec) rfl (fw_use (v := (a, b, c)) rfl hv (evs_nil ?_)))
  generalize idxF (a, b, c) = n at *
  have odd : ∀ {t : Tr}, sat P Ss_l8Wide t ([.int .i64 a, .int .i64 b, .int .i64 c, .int .i64 qt, cxv p, cxv q] ++ [cxv n, .bool true] ++ [cxv (wMul iF q)] ++ [cxv (wQuo (wMul iF q) n)] ++ [cxv (wMul iF n)] ++ [cxv (wMul (wMul iF n) p)]) [] K →
      sat P Ss_l8Wide (.evs [.call 1 [(.val (.complex .f64 0 4607182418800017408)), (.var 5)] none 1, .call 2 [(.var 8), (.var 6)] none 1] (.evs [.call 1 [(.val (.complex .f64 0 4607182418800017408)), (.var 6)] none 1, .call 1 [(.var 10), (.var 4)] none 1] t)) ([.int .i64 a, .int .i64 b, .int .i64 c, .int .i64 qt, cxv p, cxv q] ++ [cxv n, .bool true]) [] K := fun h =>
    evs_step (call_step (sp := wTimesSpec) rfl (wm_use (x := iF) (y := q) e1 (call_step (sp := wOverSpec) rfl (wq_use (x := wMul iF q) (y := n) e2 (evs_nil
      (evs_step (call_step (sp := wTimesSpec) rfl (wm_use (x := iF) (y := n) e3 (call_step (sp := wTimesSpec) rfl (wm_use (x := wMul iF n) (y := p) e4 (evs_nil h)))))))))))
  rcases (by omega : qt = 0 ∨ qt = 1 ∨ qt = 2 ∨ qt = 3) with rfl | rfl | rfl | rfl
  · exact sat_ite0 rfl (sat_ite0 rfl (sat_ite0 rfl hK))
  · refine sat_ite1 rfl (sat_ite1 rfl (odd ?_))
    exact sat_ite0 rfl hK
  · exact sat_ite0 rfl (sat_ite0 rfl (sat_ite1 rfl hK))
  · refine sat_ite0 rfl (sat_ite1 rfl (odd ?_))
    exact sat_ite1 rfl hK

def tr_l8Given : Tr :=
  (.evs [.call 0 [(.var 0), (.var 7)] none 1,
    .call 1 [(.var 1), (.var 2), (.var 3)] (some (.var 8)) 1,
    .call 1 [(.var 4), (.var 5), (.var 6)] (some (.ite (.var 8) (.var 9) (.bool false))) 1]
  (.ret [(.ite (.ite (.ite (.var 8) (.var 9) (.bool false)) (.var 10) (.bool false)) (.not (.ite (.ite (.cmp .eql (.var 1) (.int .i64 0)) (.cmp .eql (.var 2) (.int .i64 0)) (.bool false)) (.bool true) (.ite (.cmp .eql (.var 4) (.int .i64 0)) (.cmp .eql (.var 5) (.int .i64 0)) (.bool false)))) (.bool false))]))
def Fs_l8Given : List Fun1 := [F_sFilmValid, G_sFracValid]
def F_l8Given : Fun1 := ofTree Fs_l8Given tr_l8Given
def G_l8Given : Fun1 := ⟨fun ins => Fit4 (ins.getD 0 undef) (ins.getD 7 undef), fun ins => [.bool (wideOk (ins.getD 0 undef) (ins.getD 7 undef) (q3 ins 1) (q3 ins 4))]⟩
theorem as_l8Given (ins : List Value) (ht : TypedL [.sl, .int .i64, .int .i64, .int .i64, .int .i64, .int .i64, .int .i64, .row .i64 4] ins) (hp : G_l8Given.pre ins) : F_l8Given.pre ins ∧ F_l8Given.out ins = G_l8Given.out ins := by
  obtain ⟨x, r, rfl, hx, ht1⟩ := TypedL_cons ht
  obtain ⟨a0, r, rfl, _, ht2⟩ := int_cons ht1
  obtain ⟨a1, r, rfl, _, ht3⟩ := int_cons ht2
  obtain ⟨a2, r, rfl, _, ht4⟩ := int_cons ht3
  obtain ⟨b0', r, rfl, _, ht5⟩ := int_cons ht4
  obtain ⟨b1, r, rfl, _, ht6⟩ := int_cons ht5
  obtain ⟨b2, r, rfl, _, ht7⟩ := int_cons ht6
  obtain ⟨c, r, rfl, hc, ht8⟩ := TypedL_cons ht7
  obtain rfl := TypedL_nil ht8
  have hp : Fit4 x c := hp
  have hout : G_l8Given.out [x, .int .i64 a0, .int .i64 a1, .int .i64 a2, .int .i64 b0', .int .i64 b1, .int .i64 b2, c] = [.bool ((allB (layP c) 0 (rlen x) && decide (lenV x ≤ 8)) && (validI a0 a1 a2 && !(a0 == 0 && a1 == 0)) && (validI b0' b1 b2 && !(b0' == 0 && b1 == 0)))] := rfl
  rw [hout]
  simp only [F_l8Given, tr_l8Given, Fs_l8Given, F_sFilmValid, F_iFilmValid, G_sFracValid, hp, ofTree, okT, okE, evalT, evalE, evsIn, ev, callF, preF, hasF, needs, i0, b0, toI_int, toB_bool, List.getD_cons_zero, List.getD_cons_succ, List.cons_append, List.nil_append, List.replicate, if_true, if_false, Bool.false_eq_true, and_true, true_and, implies_true, forall_const, false_implies, cmpI, Bool.not_true, Bool.not_false, Bool.true_and, Bool.false_and, Bool.and_true, Bool.and_false, reduceIte, List.append_nil, reduceCtorEq]
  generalize (allB (layP c) 0 (rlen x) && decide (lenV x ≤ 8)) = V at *
  generalize validI a0 a1 a2 = A at *
  generalize validI b0' b1 b2 = B at *
  generalize (a0 == 0) = p at *
  generalize (a1 == 0) = q at *
  generalize (b0' == 0) = u at *
  generalize (b1 == 0) = w at *
  cases V <;> cases A <;> cases B <;> cases p <;> cases q <;> cases u <;> cases w <;> simp

def tr_iFilmWide : Tr :=
  (.evs [.call 0 [(.var 0), (.var 7)] none 1,
    .call 1 [(.var 1), (.var 2), (.var 3)] (some (.not (.not (.var 8)))) 1,
    .call 1 [(.var 4), (.var 5), (.var 6)] (some (.not (.ite (.not (.var 8)) (.bool true) (.not (.var 9))))) 1]
  (.ite (.ite (.ite (.not (.var 8)) (.bool true) (.not (.var 9))) (.bool true) (.not (.var 10)))
  (.ret [(.val (.complex .f64 0 0)), (.bool false)])
  (.evs [.call 2 [(.var 4), (.var 5), (.var 6)] none 2]
   (.evs [.call 3 [(.var 0), (.var 7)] none 2]
   (.lp 0 [(.int .i64 0), (.val (.complex .f64 4607182418800017408 0)), (.var 11)] [.int .i64, .cpx .f64, .cpx .f64]
   (.ite (.cmp .lss (.var 15) (.len (.var 13)))
    (.evs [.need [(.inb (.var 14) (.var 15) 4)]]
     (.evs [.call 2 [(.sel (.var 14) (.var 15) 4 0), (.sel (.var 14) (.var 15) 4 1), (.sel (.var 14) (.var 15) 4 2)] none 2]
     (.evs [.need [(.bool true)]]
     (.ite (.cmp .eql (.ar .rem .i64 (.sel (.var 14) (.var 15) 4 3) (.int .i64 2)) (.int .i64 1))
     (.evs [.call 4 [(.val (.complex .f64 0 4607182418800017408)), (.var 17)] none 1,
        .call 5 [(.var 20), (.var 18)] none 1,
        .call 4 [(.val (.complex .f64 0 4607182418800017408)), (.var 18)] none 1,
        .call 4 [(.var 22), (.var 16)] none 1]
      (.ite (.cmp .geq (.sel (.var 14) (.var 15) 4 3) (.int .i64 2))
      (.next 0 [(.ar .add .i64 (.var 15) (.int .i64 1)), (.fneg (.var 21)), (.fneg (.var 23))])
      (.next 0 [(.ar .add .i64 (.var 15) (.int .i64 1)), (.var 21), (.var 23)])))
     (.ite (.cmp .geq (.sel (.var 14) (.var 15) 4 3) (.int .i64 2))
      (.next 0 [(.ar .add .i64 (.var 15) (.int .i64 1)), (.fneg (.var 16)), (.fneg (.var 17))])
      (.next 0 [(.ar .add .i64 (.var 15) (.int .i64 1)), (.var 16), (.var 17)]))))))
    (.evs [.call 2 [(.var 1), (.var 2), (.var 3)] none 2]
     (.evs [.call 4 [(.var 18), (.var 16)] none 1]
     (.evs [.prim (.ca .sub .f64) [(.var 20), (.var 17)],
       .prim (.ca .add .f64) [(.var 20), (.var 17)],
       .call 5 [(.var 21), (.var 22)] none 1]
     (.ret [(.var 23), (.bool true)]))))))))))
def Ss_iFilmWide : List Spec := [F_iFilmValid.spec, G_indexOk.spec, SP_iFracWide, SP_revL, SP_iWideTimes, SP_iWideOver]
def SP_iFilmWide : Spec := wFilmSpec
theorem film_of {ins : List Value} (ht : TypedL [.sl, .int .i64, .int .i64, .int .i64, .int .i64, .int .i64, .int .i64, .row .i64 4] ins) (hf : Fit4 (ins.getD 0 undef) (ins.getD 7 undef)) :
    ∃ (a : Option Addr) (n cap : Nat) (c : Value) (g : Nat → Int), ins = [.slice a n cap, .int .i64 (g 0), .int .i64 (g 1), .int .i64 (g 2), .int .i64 (g 3), .int .i64 (g 4), .int .i64 (g 5), c] ∧ c.cells.size = n * 4 ∧ n ≤ 9223372036854775807 ∧ HasTy (.row .i64 4) c := by
  obtain ⟨x, r, rfl, hx, ht1⟩ := TypedL_cons ht
  obtain ⟨a0, r, rfl, _, ht2⟩ := int_cons ht1
  obtain ⟨a1, r, rfl, _, ht3⟩ := int_cons ht2
  obtain ⟨a2, r, rfl, _, ht4⟩ := int_cons ht3
  obtain ⟨b0', r, rfl, _, ht5⟩ := int_cons ht4
  obtain ⟨b1, r, rfl, _, ht6⟩ := int_cons ht5
  obtain ⟨b2, r, rfl, _, ht7⟩ := int_cons ht6
  obtain ⟨c, r, rfl, hc, ht8⟩ := TypedL_cons ht7
  obtain rfl := TypedL_nil ht8
  obtain ⟨a, n, cap, rfl, hc4, hn⟩ : Fit4 x c := hf
  exact ⟨a, n, cap, c, fun i => match i with | 0 => a0 | 1 => a1 | 2 => a2 | 3 => b0' | 4 => b1 | _ => b2, rfl, hc4, hn, hc⟩
theorem sat_iFilmWide (P : Program) (ins : List Value) (K : List Value → Prop) (ht : TypedL [.sl, .int .i64, .int .i64, .int .i64, .int .i64, .int .i64, .int .i64, .row .i64 4] ins) (h : SP_iFilmWide ins K) : sat P Ss_iFilmWide tr_iFilmWide ins [] K := by
  obtain ⟨hf, h1, h0⟩ := h
  obtain ⟨a, n, cap, c, g, rfl, hc, hn, hcT⟩ := film_of ht hf
  have h1 : wideOk (.slice a n cap) c (g 0, g 1, g 2) (g 3, g 4, g 5) = true → ∀ v, WideRes (wN c n) (wT c n) (idxF (g 0, g 1, g 2)) (idxF (g 3, g 4, g 5)) n v → K [v, .bool true] := h1
  have h0 : wideOk (.slice a n cap) c (g 0, g 1, g 2) (g 3, g 4, g 5) = false → K [cxv (0, 0), .bool false] := h0
  have hw : wideOk (.slice a n cap) c (g 0, g 1, g 2) (g 3, g 4, g 5) = ((allB (layP c) 0 n && decide ((n : Int) ≤ 8)) && idxQ (g 0, g 1, g 2) && idxQ (g 3, g 4, g 5)) := rfl
  have fit : Fit4 (.slice a n cap) c := ⟨a, n, cap, rfl, hc, hn⟩
  refine evs_step (call_step (sp := F_iFilmValid.spec) rfl ⟨fit, ?_⟩)
  have eV : F_iFilmValid.out [.slice a n cap, c] = [.bool (allB (layP c) 0 n && decide ((n : Int) ≤ 8))] := rfl
  show evSat P _ _ ([Value.slice a n cap, .int .i64 (g 0), .int .i64 (g 1), .int .i64 (g 2), .int .i64 (g 3), .int .i64 (g 4), .int .i64 (g 5), c] ++ F_iFilmValid.out [.slice a n cap, c]) _
  rw [eV]
  cases hV : (allB (layP c) 0 n && decide ((n : Int) ≤ 8)) with
  | false =>
    refine ⟨fun h => (by cases h), fun _ => ⟨fun h => (by cases h), fun _ => evs_nil (sat_ite1 rfl ?_)⟩⟩
    exact h0 (by rw [hw, hV]; rfl)
  | true =>
    refine ⟨fun _ => ⟨trivial, ?_⟩, fun h => (by cases h)⟩
    have eA : G_indexOk.out [.int .i64 (g 0), .int .i64 (g 1), .int .i64 (g 2)] = [.bool (idxQ (g 0, g 1, g 2))] := rfl
    show evSat P _ _ ([Value.slice a n cap, .int .i64 (g 0), .int .i64 (g 1), .int .i64 (g 2), .int .i64 (g 3), .int .i64 (g 4), .int .i64 (g 5), c, .bool true] ++ G_indexOk.out [.int .i64 (g 0), .int .i64 (g 1), .int .i64 (g 2)]) _
    rw [eA]
    cases hA : idxQ (g 0, g 1, g 2) with
    | false =>
      refine ⟨fun h => (by cases h), fun _ => evs_nil (sat_ite1 rfl ?_)⟩
      exact h0 (by rw [hw, hV, hA]; rfl)
    | true =>
      refine ⟨fun _ => ⟨trivial, ?_⟩, fun h => (by cases h)⟩
      have eB : G_indexOk.out [.int .i64 (g 3), .int .i64 (g 4), .int .i64 (g 5)] = [.bool (idxQ (g 3, g 4, g 5))] := rfl
      show evSat P _ _ ([Value.slice a n cap, .int .i64 (g 0), .int .i64 (g 1), .int .i64 (g 2), .int .i64 (g 3), .int .i64 (g 4), .int .i64 (g 5), c, .bool true, .bool true] ++ G_indexOk.out [.int .i64 (g 3), .int .i64 (g 4), .int .i64 (g 5)]) _
      rw [eB]
      cases hB : idxQ (g 3, g 4, g 5) with
      | false => exact evs_nil (sat_ite1 rfl (h0 (by rw [hw, hV, hA, hB]; rfl)))
      | true =>
        have hok : wideOk (.slice a n cap) c (g 0, g 1, g 2) (g 3, g 4, g 5) = true := by rw [hw, hV, hA, hB]; rfl
        have hK := h1 hok
        obtain ⟨h8, hl, _, _, bA, bB⟩ := wide_facts (n := n) rfl hok
        refine evs_nil (sat_ite0 rfl (evs_step (call_step (sp := fWideSpec) rfl (fw_use (v := (g 3, g 4, g 5)) rfl (idx_val hB).1 (evs_nil ?_)))))
        refine evs_step (call_step (sp := revSpec) rfl ⟨fit, by show n ≤ 1048576; omega, fun a2 cap2 => evs_nil ?_⟩)
        show sat P _ _ [Value.slice a n cap, .int .i64 (g 0), .int .i64 (g 1), .int .i64 (g 2), .int .i64 (g 3), .int .i64 (g 4), .int .i64 (g 5), c, .bool true, .bool true, .bool true, cxv (idxF (g 3, g 4, g 5)), .bool true, .slice a2 n cap2, revR c n] _ K
        refine ⟨fun vs => ∃ k : Nat, k ≤ n ∧ vs = [.int .i64 k, cxv (wRun (wN c n) (wT c n) (idxF (g 3, g 4, g 5)) k).1, cxv (wRun (wN c n) (wT c n) (idxF (g 3, g 4, g 5)) k).2], fun vs => n - (toI (vs.getD 0 undef)).toNat, ⟨0, Nat.zero_le _, rfl⟩, ?_⟩
        rintro vs hty ⟨k, hk, rfl⟩
        refine sat_ite (b := decide ((k : Int) < (n : Int))) rfl (fun h => ?_) (fun h => ?_)
        · have hlt : k < n := by simpa using h
          have hin := inb_ok (revR_size c n) hlt
          have e0 : rq (revR c n) k 0 = rq c (n - 1 - k) 0 := revR_rq c hlt (by omega)
          have e1 : rq (revR c n) k 1 = rq c (n - 1 - k) 1 := revR_rq c hlt (by omega)
          have e2 : rq (revR c n) k 2 = rq c (n - 1 - k) 2 := revR_rq c hlt (by omega)
          have e3 : rq (revR c n) k 3 = wT c n k := revR_rq c hlt (by omega)
          have eI : (rq (revR c n) k 0, rq (revR c n) k 1, rq (revR c n) k 2) = layI c (n - 1 - k) := by rw [e0, e1, e2]; rfl
          obtain ⟨_, t0, t3, hv⟩ := hl k hlt
          obtain ⟨o1, o2, o3, o4⟩ := odd_ok (b := idxF (g 3, g 4, g 5)) h8 hl bB hlt
          have hst : wRun (wN c n) (wT c n) (idxF (g 3, g 4, g 5)) (k + 1) = wStep (wN c n k) (wT c n k) (wRun (wN c n) (wT c n) (idxF (g 3, g 4, g 5)) k).1 (wRun (wN c n) (wT c n) (idxF (g 3, g 4, g 5)) k).2 := rfl
          have hnx : ∀ u w : CF, wStep (wN c n k) (wT c n k) (wRun (wN c n) (wT c n) (idxF (g 3, g 4, g 5)) k).1 (wRun (wN c n) (wT c n) (idxF (g 3, g 4, g 5)) k).2 = (u, w) → (∃ j : Nat, j ≤ n ∧ [Value.int .i64 (IntKind.i64.wrap ((k : Int) + 1)), cxv u, cxv w] = [.int .i64 j, cxv (wRun (wN c n) (wT c n) (idxF (g 3, g 4, g 5)) j).1, cxv (wRun (wN c n) (wT c n) (idxF (g 3, g 4, g 5)) j).2]) ∧
              n - (toI (.int .i64 (IntKind.i64.wrap ((k : Int) + 1)))).toNat < n - (toI (.int .i64 (k : Int))).toNat := fun u w e => by
            rw [wrap_next hlt hn]
            refine ⟨⟨k + 1, by omega, by rw [hst, e]⟩, ?_⟩
            simp only [toI_int, Int.toNat_natCast]
            omega
          generalize hpq : wRun (wN c n) (wT c n) (idxF (g 3, g 4, g 5)) k = pq at *
          refine evs_step ⟨fun e he => by rw [List.mem_singleton.1 he]; exact hin, evs_nil (evs_step (call_step (sp := fWideSpec) rfl (fw_use (v := layI c (n - 1 - k)) (by exact eI) hv (evs_nil ?_))))⟩
          show sat P _ _ [Value.slice a n cap, .int .i64 (g 0), .int .i64 (g 1), .int .i64 (g 2), .int .i64 (g 3), .int .i64 (g 4), .int .i64 (g 5), c, .bool true, .bool true, .bool true, cxv (idxF (g 3, g 4, g 5)), .bool true, .slice a2 n cap2, revR c n, .int .i64 k, cxv pq.1, cxv pq.2, cxv (idxF (layI c (n - 1 - k))), .bool true] _ K
          have eW : idxF (layI c (n - 1 - k)) = wN c n k := rfl
          rw [eW]
          refine evs_step ⟨fun e he => by rw [List.mem_singleton.1 he]; rfl, evs_nil ?_⟩
          generalize hW : wN c n k = W at *
          generalize hT : wT c n k = T at *
          refine sat_ite (b := (T.tmod 2 == 1)) (by show Value.bool ((rq (revR c n) k 3).tmod 2 == 1) = _; rw [e3]) (fun h => ?_) (fun h => ?_)
          · refine evs_step (call_step (sp := wTimesSpec) rfl (wm_use (x := iF) (y := pq.2) o1 (call_step (sp := wOverSpec) rfl (wq_use (x := wMul iF pq.2) (y := W) o2 (call_step (sp := wTimesSpec) rfl (wm_use (x := iF) (y := W) o3 (call_step (sp := wTimesSpec) rfl (wm_use (x := wMul iF W) (y := pq.1) o4 (evs_nil ?_)))))))))
            refine sat_ite (b := decide (T ≥ 2)) (by show Value.bool (decide (rq (revR c n) k 3 ≥ 2)) = _; rw [e3]) (fun h' => ?_) (fun h' => ?_)
            · obtain rfl : T = 3 := by
                rcases (by omega : T = 0 ∨ T = 1 ∨ T = 2 ∨ T = 3) with rfl | rfl | rfl | rfl <;> first | rfl | (exact absurd h (by decide)) | (exact absurd h' (by decide))
              exact hnx _ _ rfl
            · obtain rfl : T = 1 := by
                rcases (by omega : T = 0 ∨ T = 1 ∨ T = 2 ∨ T = 3) with rfl | rfl | rfl | rfl <;> first | rfl | (exact absurd h (by decide)) | (exact absurd h' (by decide))
              exact hnx _ _ rfl
          · refine sat_ite (b := decide (T ≥ 2)) (by show Value.bool (decide (rq (revR c n) k 3 ≥ 2)) = _; rw [e3]) (fun h' => ?_) (fun h' => ?_)
            · obtain rfl : T = 2 := by
                rcases (by omega : T = 0 ∨ T = 1 ∨ T = 2 ∨ T = 3) with rfl | rfl | rfl | rfl <;> first | rfl | (exact absurd h (by decide)) | (exact absurd h' (by decide))
              exact hnx _ _ rfl
            · obtain rfl : T = 0 := by
                rcases (by omega : T = 0 ∨ T = 1 ∨ T = 2 ∨ T = 3) with rfl | rfl | rfl | rfl <;> first | rfl | (exact absurd h (by decide)) | (exact absurd h' (by decide))
              exact hnx _ _ rfl
        · have hge : ¬ k < n := by simpa using h
          obtain rfl : k = n := by omega
          obtain ⟨m1, m2, m3, _, _⟩ := wEnds_bd (qt := wT c k) h8 (fun j hj => (hl j hj).1) bA bB
          refine evs_step (call_step (sp := fWideSpec) rfl (fw_use (v := (g 0, g 1, g 2)) rfl (idx_val hA).1 (evs_nil ?_)))
          refine evs_step (call_step (sp := wTimesSpec) rfl (wm_use (x := idxF (g 0, g 1, g 2)) m1 (evs_nil ?_)))
          refine evs_step (ca_step (.inr rfl) rfl rfl m2 (ca_step (.inl rfl) rfl rfl m3 (call_step (sp := wOverSpec) rfl ⟨_, _, rfl, fun v hv => evs_nil (hK v hv)⟩)))

def tr_sFilmWide : Tr :=
  (.evs [.call 0 [(.var 0), (.var 1), (.var 2), (.var 3), (.var 4), (.var 5), (.var 6), (.var 7)] none 1]
  (.ite (.not (.var 8))
  (.ret [(.val (.complex .f64 0 0)), (.bool false)])
  (.evs [.call 1 [(.var 4), (.var 5), (.var 6)] none 2]
   (.lp 0 [(.ar .sub .i64 (.len (.var 0)) (.int .i64 1)), (.val (.complex .f64 4607182418800017408 0)), (.var 9)] [.int .i64, .cpx .f64, .cpx .f64]
   (.ite (.cmp .geq (.var 11) (.int .i64 0))
    (.evs [.need [(.inb (.var 7) (.var 11) 4)],
       .call 2 [(.sel (.var 7) (.var 11) 4 0), (.sel (.var 7) (.var 11) 4 1), (.sel (.var 7) (.var 11) 4 2), (.sel (.var 7) (.var 11) 4 3), (.var 12), (.var 13)] none 2]
     (.next 0 [(.ar .sub .i64 (.var 11) (.int .i64 1)), (.var 14), (.var 15)]))
    (.evs [.call 1 [(.var 1), (.var 2), (.var 3)] none 2]
     (.evs [.call 3 [(.var 14), (.var 12)] none 1]
     (.evs [.prim (.ca .sub .f64) [(.var 16), (.var 13)],
       .prim (.ca .add .f64) [(.var 16), (.var 13)],
       .call 4 [(.var 17), (.var 18)] none 1]
     (.ret [(.var 19), (.bool true)])))))))))
def Ss_sFilmWide : List Spec := [G_l8Given.spec, SP_sFracWide, SP_l8Wide, SP_sWideTimes, SP_sWideOver]
def SP_sFilmWide : Spec := wFilmSpec
theorem sat_sFilmWide (P : Program) (ins : List Value) (K : List Value → Prop) (ht : TypedL [.sl, .int .i64, .int .i64, .int .i64, .int .i64, .int .i64, .int .i64, .row .i64 4] ins) (h : SP_sFilmWide ins K) : sat P Ss_sFilmWide tr_sFilmWide ins [] K := by
  obtain ⟨hf, h1, h0⟩ := h
  obtain ⟨a, n, cap, c, g, rfl, hc, hn, hcT⟩ := film_of ht hf
  have h1 : wideOk (.slice a n cap) c (g 0, g 1, g 2) (g 3, g 4, g 5) = true → ∀ v, WideRes (wN c n) (wT c n) (idxF (g 0, g 1, g 2)) (idxF (g 3, g 4, g 5)) n v → K [v, .bool true] := h1
  have h0 : wideOk (.slice a n cap) c (g 0, g 1, g 2) (g 3, g 4, g 5) = false → K [cxv (0, 0), .bool false] := h0
  have fit : Fit4 (.slice a n cap) c := ⟨a, n, cap, rfl, hc, hn⟩
  refine evs_step (call_step (sp := G_l8Given.spec) rfl ⟨fit, evs_nil ?_⟩)
  show sat P _ _ ([Value.slice a n cap, .int .i64 (g 0), .int .i64 (g 1), .int .i64 (g 2), .int .i64 (g 3), .int .i64 (g 4), .int .i64 (g 5), c] ++ [.bool (wideOk (.slice a n cap) c (g 0, g 1, g 2) (g 3, g 4, g 5))]) _ K
  cases hok : wideOk (.slice a n cap) c (g 0, g 1, g 2) (g 3, g 4, g 5) with
  | false => exact sat_ite1 rfl (h0 hok)
  | true =>
    have hK := h1 hok
    obtain ⟨h8, hl, hA, hB, bA, bB⟩ := wide_facts (n := n) rfl hok
    refine sat_ite0 rfl (evs_step (call_step (sp := fWideSpec) rfl (fw_use (v := (g 3, g 4, g 5)) rfl (idx_val hB).1 (evs_nil ?_))))
    show sat P _ _ [Value.slice a n cap, .int .i64 (g 0), .int .i64 (g 1), .int .i64 (g 2), .int .i64 (g 3), .int .i64 (g 4), .int .i64 (g 5), c, .bool true, cxv (idxF (g 3, g 4, g 5)), .bool true] _ K
    have hw0 : IntKind.i64.wrap ((n : Int) - 1) = (n : Int) - 1 - ((0 : Nat) : Int) := by rw [wrap_in (by omega)]; omega
    refine ⟨fun vs => ∃ k : Nat, k ≤ n ∧ vs = [.int .i64 ((n : Int) - 1 - k), cxv (wRun (wN c n) (wT c n) (idxF (g 3, g 4, g 5)) k).1, cxv (wRun (wN c n) (wT c n) (idxF (g 3, g 4, g 5)) k).2], fun vs => (toI (vs.getD 0 undef) + 1).toNat, ⟨0, Nat.zero_le _, ?_⟩, ?_⟩
    · show [Value.int .i64 (IntKind.i64.wrap ((n : Int) - 1)), cxv oneF, cxv (idxF (g 3, g 4, g 5))] = _
      rw [hw0]
      rfl
    rintro vs hty ⟨k, hk, rfl⟩
    refine sat_ite (b := decide ((n : Int) - 1 - (k : Int) ≥ 0)) rfl (fun h => ?_) (fun h => ?_)
    · have hlt : k < n := by
        have : (n : Int) - 1 - (k : Int) ≥ 0 := by simpa using h
        omega
      obtain ⟨_, t0, t3, hv⟩ := hl k hlt
      have hod := odd_ok (b := idxF (g 3, g 4, g 5)) h8 hl bB hlt
      have ek : (n : Int) - 1 - (k : Int) = ((n - 1 - k : Nat) : Int) := by omega
      have hin := inb_ok hc (show n - 1 - k < n by omega)
      have hst : wRun (wN c n) (wT c n) (idxF (g 3, g 4, g 5)) (k + 1) = wStep (wN c n k) (wT c n k) (wRun (wN c n) (wT c n) (idxF (g 3, g 4, g 5)) k).1 (wRun (wN c n) (wT c n) (idxF (g 3, g 4, g 5)) k).2 := rfl
      have hnx : (∃ j : Nat, j ≤ n ∧ [Value.int .i64 (IntKind.i64.wrap ((n : Int) - 1 - (k : Int) - 1)), cxv (wStep (wN c n k) (wT c n k) (wRun (wN c n) (wT c n) (idxF (g 3, g 4, g 5)) k).1 (wRun (wN c n) (wT c n) (idxF (g 3, g 4, g 5)) k).2).1, cxv (wStep (wN c n k) (wT c n k) (wRun (wN c n) (wT c n) (idxF (g 3, g 4, g 5)) k).1 (wRun (wN c n) (wT c n) (idxF (g 3, g 4, g 5)) k).2).2] = [.int .i64 ((n : Int) - 1 - j), cxv (wRun (wN c n) (wT c n) (idxF (g 3, g 4, g 5)) j).1, cxv (wRun (wN c n) (wT c n) (idxF (g 3, g 4, g 5)) j).2]) ∧
          (toI (.int .i64 (IntKind.i64.wrap ((n : Int) - 1 - (k : Int) - 1))) + 1).toNat < (toI (.int .i64 ((n : Int) - 1 - (k : Int))) + 1).toNat := by
        have hw : IntKind.i64.wrap ((n : Int) - 1 - (k : Int) - 1) = (n : Int) - 1 - ((k + 1 : Nat) : Int) := by rw [wrap_in (by omega)]; omega
        rw [hw]
        refine ⟨⟨k + 1, by omega, by rw [hst]⟩, ?_⟩
        simp only [toI_int]
        omega
      generalize hpq : wRun (wN c n) (wT c n) (idxF (g 3, g 4, g 5)) k = pq at *
      rw [ek] at hnx ⊢
      refine evs_step ⟨fun e he => by rw [List.mem_singleton.1 he]; exact hin, call_step (sp := l8wSpec) rfl ⟨pq.1, pq.2, rfl, rfl, hv, ⟨t0, t3⟩, hod, evs_nil ?_⟩⟩
      exact hnx
    · have hge : ¬ k < n := by
        have : ¬ (n : Int) - 1 - (k : Int) ≥ 0 := by simpa using h
        omega
      obtain rfl : k = n := by omega
      obtain ⟨m1, m2, m3, _, _⟩ := wEnds_bd (qt := wT c k) h8 (fun j hj => (hl j hj).1) bA bB
      refine evs_step (call_step (sp := fWideSpec) rfl (fw_use (v := (g 0, g 1, g 2)) rfl (idx_val hA).1 (evs_nil ?_)))
      refine evs_step (call_step (sp := wTimesSpec) rfl (wm_use (x := idxF (g 0, g 1, g 2)) m1 (evs_nil ?_)))
      refine evs_step (ca_step (.inr rfl) rfl rfl m2 (ca_step (.inl rfl) rfl rfl m3 (call_step (sp := wOverSpec) rfl ⟨_, _, rfl, fun v hv => evs_nil (hK v hv)⟩)))

def tr_DrawFilmWide : Tr :=
  (.evs [.call 0 [(.var 0)] none 8]
  (.ret [(.var 1), (.var 2), (.var 3), (.var 4), (.var 5), (.var 6), (.var 7), (.var 8)]))
def Ss_DrawFilmWide (cb : CodeB) : List Spec := [(SP_l92Between cb)]
def SP_DrawFilmWide (cb : CodeB) : Spec := betw cb
theorem sat_DrawFilmWide (P : Program) (cb : CodeB) (hk : CodeOk cb) (ins : List Value) (K : List Value → Prop) (ht : TypedL [.sl] ins) (h : SP_DrawFilmWide cb ins K) : sat P (Ss_DrawFilmWide cb) tr_DrawFilmWide ins [] K := by
  obtain ⟨hv, hK⟩ := h
  obtain ⟨b, rfl, hv⟩ := hv
  exact ⟨⟨b, rfl, hv⟩, fun a n cap c u v w x y z h1 h2 h3 => hK a n cap c u v w x y z h1 h2 h3⟩

def tr_zeroAlike : Tr :=
  (.ite (.fcmp .neq (.var 0) (.var 0))
  (.ret [(.fcmp .neq (.var 1) (.var 1))])
  (.evs [.prim (.fa .quo .f64) [(.val (.float .f64 4607182418800017408)), (.var 0)],
     .prim (.fa .quo .f64) [(.val (.float .f64 4607182418800017408)), (.var 1)]]
   (.ret [(.ite (.fcmp .eql (.var 0) (.var 1)) (.fcmp .eql (.var 2) (.var 3)) (.bool false))])))
def Fs_zeroAlike : List Fun1 := []
theorem one_over {x : Nat} (h : Op.Complex.isNaN x = false) : ∃ r, floatBits .quo .f64 4607182418800017408 x = some r ∧ Op.Complex.isNaN r = false := by
  have e : floatBits .quo .f64 4607182418800017408 x = ((D.read 4607182418800017408).quotient 54 (D.read x)).map D.write := rfl
  rw [e, show D.read 4607182418800017408 = .number false 4503599627370496 (-52) by decide +kernel]
  cases hr : D.read x with
  | nan s t =>
    have h : (D.read x).isNaN = false := h
    rw [hr] at h
    cases h
  | infinity s => exact ⟨_, rfl, by cases s <;> decide +kernel⟩
  | number s m i =>
    by_cases hm : m = 0
    · subst hm
      exact ⟨_, rfl, by cases s <;> decide +kernel⟩
    · have e2 : (Ieee.Datum.number false 4503599627370496 (-52)).quotient 54 (.number s m i) = some (.number (false ^^ s) (2 * ((4503599627370496 <<< (54 + m.log2 - (4503599627370496 : Nat).log2)) / m) + ((4503599627370496 <<< (54 + m.log2 - (4503599627370496 : Nat).log2)) % m != 0).toNat) (-52 - i - ((54 + m.log2 - (4503599627370496 : Nat).log2 : Nat) : Int) - 1)) := by
        show (if m = 0 then _ else _) = _
        rw [if_neg hm]
      rw [e2]
      exact ⟨_, rfl, write_notNaN _ _ _⟩
def SP_zeroAlike : Spec := fun ins K => ∃ x y : Nat, ins = [.float .f64 x, .float .f64 y] ∧ SameF x y ∧ K [.bool true]
theorem sat_zeroAlike (P : Program) (ins : List Value) (K : List Value → Prop) (ht : TypedL [.flt .f64, .flt .f64] ins) (h : SP_zeroAlike ins K) : sat P (specsOf Fs_zeroAlike) tr_zeroAlike ins [] K := by
  obtain ⟨x, y, rfl, hs, hK⟩ := h
  have nan : Op.Complex.isNaN x = true → Op.Complex.isNaN y = true → sat P (specsOf Fs_zeroAlike) tr_zeroAlike [.float .f64 x, .float .f64 y] [] K := fun nx ny => by
    refine sat_ite1 ?_ ?_
    · show Value.bool (FloatKind.f64.format.order x x != some .eq) = _
      rw [ord_nan nx]; rfl
    · show K [.bool (FloatKind.f64.format.order y y != some .eq)]
      rw [ord_nan ny]
      exact hK
  rcases hs with rfl | ⟨nx, ny⟩
  · cases nx : Op.Complex.isNaN x with
    | true => exact nan nx nx
    | false =>
      refine sat_ite0 ?_ ?_
      · show Value.bool (FloatKind.f64.format.order x x != some .eq) = _
        rw [ord_self nx]; rfl
      obtain ⟨r, hq, nr⟩ := one_over nx
      refine evs_step (fa_step rfl rfl hq (fa_step rfl rfl hq (evs_nil ?_)))
      show K [if toB (Value.bool (FloatKind.f64.format.order x x == some .eq)) = true then Value.bool (FloatKind.f64.format.order r r == some .eq) else .bool false]
      rw [ord_self nx, ord_self nr]
      exact hK
  · exact nan nx ny

def tr_wideAlike : Tr :=
  (.evs [.call 0 [(.cre (.var 0)), (.cre (.var 1))] none 1,
    .call 0 [(.cim (.var 0)), (.cim (.var 1))] (some (.var 2)) 1]
  (.ret [(.ite (.var 2) (.var 3) (.bool false))]))
def Ss_wideAlike : List Spec := [SP_zeroAlike]
def SP_wideAlike : Spec := fun ins K => ∃ a b c d : Nat, ins = [.complex .f64 a b, .complex .f64 c d] ∧ SameF a c ∧ SameF b d ∧ K [.bool true]
theorem sat_wideAlike (P : Program) (ins : List Value) (K : List Value → Prop) (ht : TypedL [.cpx .f64, .cpx .f64] ins) (h : SP_wideAlike ins K) : sat P Ss_wideAlike tr_wideAlike ins [] K := by
  obtain ⟨a, b, c, d, rfl, h1, h2, hK⟩ := h
  exact evs_step (call_step (sp := SP_zeroAlike) rfl ⟨a, c, rfl, h1, ⟨fun _ => ⟨b, d, rfl, h2, evs_nil hK⟩, fun h => (by cases h)⟩⟩)

def tr_withinF : Tr :=
  (.evs [.prim (.fa .sub .f64) [(.var 0), (.var 1)],
    .prim (.fa .sub .f64) [(.var 1), (.var 0)]]
  (.ret [(.ite (.fcmp .lss (.var 3) (.var 2)) (.fcmp .lss (.var 4) (.var 2)) (.bool false))]))
def Fs_withinF : List Fun1 := []
def SP_withinF : Spec := fun ins K => ∃ x y m u w : Nat, ins = [.float .f64 x, .float .f64 y, .float .f64 m] ∧ (floatBits .sub .f64 x y = some u ∧ FloatKind.f64.format.order u m = some .lt) ∧ (floatBits .sub .f64 y x = some w ∧ FloatKind.f64.format.order w m = some .lt) ∧ K [.bool true]
theorem sat_withinF (P : Program) (ins : List Value) (K : List Value → Prop) (ht : TypedL [.flt .f64, .flt .f64, .flt .f64] ins) (h : SP_withinF ins K) : sat P (specsOf Fs_withinF) tr_withinF ins [] K := by
  obtain ⟨x, y, m, u, w, rfl, ⟨h1, h2⟩, ⟨h3, h4⟩, hK⟩ := h
  refine evs_step (fa_step rfl rfl h1 (fa_step rfl rfl h3 (evs_nil ?_)))
  show K [if toB (Value.bool (FloatKind.f64.format.order u m == some .lt)) = true then Value.bool (FloatKind.f64.format.order w m == some .lt) else .bool false]
  rw [h2, h4]
  exact hK

def tr_FnFilmWide : Tr :=
  (.ite (.cmp .gtr (.len (.var 0)) (.int .i64 1048576))
  (.ret [(.bool true)])
  (.evs [.call 0 [(.var 0)] none 8]
   (.evs [.call 1 [(.var 1), (.var 2), (.var 3), (.var 4), (.var 5), (.var 6), (.var 7), (.var 8)] none 2]
   (.evs [.call 2 [(.var 1), (.var 2), (.var 3), (.var 4), (.var 5), (.var 6), (.var 7), (.var 8)] none 2]
   (.evs [.call 3 [(.var 9), (.var 11)] (some (.not (.not (.eqb (.var 10) (.var 12))))) 1]
   (.ite (.ite (.ite (.not (.eqb (.var 10) (.var 12))) (.bool true) (.not (.var 13))) (.bool true) (.not (.var 10)))
   (.evs [.call 3 [(.var 9), (.var 11)] (some (.eqb (.var 10) (.var 12))) 1]
    (.ret [(.ite (.eqb (.var 10) (.var 12)) (.var 14) (.bool false))]))
   (.evs [.call 4 [(.var 1), (.var 2), (.var 3), (.var 4), (.var 5), (.var 6), (.var 7), (.var 8)] none 4]
    (.evs [.call 5 [(.var 14), (.var 15), (.var 16)] none 2]
    (.evs [.call 6 [(.var 1), (.var 8)] none 1]
    (.lp 0 [(.int .i64 0), (.ite (.ite (.ite (.ite (.ite (.ite (.ite (.ite (.var 20) (.cmp .eql (.var 3) (.int .i64 0)) (.bool false)) (.cmp .eql (.var 6) (.int .i64 0)) (.bool false)) (.cmp .gtr (.var 2) (.int .i64 0)) (.bool false)) (.cmp .gtr (.var 5) (.int .i64 0)) (.bool false)) (.cmp .leq (.var 2) (.int .i64 100)) (.bool false)) (.cmp .leq (.var 5) (.int .i64 100)) (.bool false)) (.cmp .leq (.var 4) (.int .i64 100)) (.bool false)) (.cmp .leq (.var 7) (.int .i64 100)) (.bool false))] [.int .i64, .bool]
    (.ite (.cmp .lss (.var 21) (.len (.var 1)))
     (.evs [.need [(.inb (.var 8) (.var 21) 4)]]
      (.next 0 [(.ar .add .i64 (.var 21) (.int .i64 1)), (.ite (.ite (.ite (.var 22) (.cmp .gtr (.sel (.var 8) (.var 21) 4 0) (.int .i64 0)) (.bool false)) (.cmp .leq (.sel (.var 8) (.var 21) 4 0) (.int .i64 100)) (.bool false)) (.cmp .leq (.sel (.var 8) (.var 21) 4 2) (.int .i64 100)) (.bool false))]))
     (.evs [.call 7 [(.cre (.var 9)), (.cre (.var 18)), (.val (.float .f64 4472406533629990549))] (some (.not (.ite (.ite (.not (.var 17)) (.bool true) (.not (.var 19))) (.bool true) (.not (.var 22))))) 1,
        .call 7 [(.cim (.var 9)), (.cim (.var 18)), (.val (.float .f64 4472406533629990549))] (some (.ite (.not (.ite (.ite (.not (.var 17)) (.bool true) (.not (.var 19))) (.bool true) (.not (.var 22)))) (.var 23) (.bool false))) 1]
      (.ret [(.ite (.ite (.ite (.not (.var 17)) (.bool true) (.not (.var 19))) (.bool true) (.not (.var 22))) (.bool true) (.ite (.var 23) (.var 24) (.bool false)))])))))))))))))
def Ss_FnFilmWide (cb : CodeB) : List Spec := [(tySpec [.sl, .int .i64, .int .i64, .int .i64, .int .i64, .int .i64, .int .i64, .row .i64 4] (SP_DrawFilmWide cb)), SP_iFilmWide, SP_sFilmWide, SP_wideAlike, G_iFilmReflected.spec, SP_iFracWide, F_realFilm.spec, SP_withinF]
-- part film
/-- The k-th fraction of a list. -/
def accQ (acc : List Value) (k : Nat) : Q := q3 acc (3 * k)
def layX (c : Value) (k : Nat) : Q := (rq c k 0, rq c k 1, rq c k 2)
theorem acc_tri (g : Nat → Int) : ∀ i, i < 4 → accQ (ivs g 0 12) i = tri g (3 * i) := get4 rfl rfl rfl rfl
theorem take_ntt (ok : Bool) (d : Nat → Option Q) : (nttW 4 ok d).take 12 = ivs (nttH 4 ok d) 0 12 := rfl
theorem ntt_ok (ok : Bool) (d : Nat → Option Q) : b0 (nttW 4 ok d) 12 = nttT 4 ok d := rfl
theorem acc_ntt {ok : Bool} {d : Nat → Option Q} (h : nttT 4 ok d = true) {i : Nat} (hi : i < 4) {v : Q} (hv : d i = some v) : accQ ((nttW 4 ok d).take 12) i = v := by
  rw [take_ntt, acc_tri _ i hi]
  exact ntt_tri h hv
theorem mat_get {f : Nat → Q} (h : matQ f = true) : ∀ i, i < 4 → validQ (f i) = true := fun i hi => allB_get h i (Nat.zero_le _) (by omega)
theorem mat_intro {f : Nat → Q} (h : ∀ i, i < 4 → validQ (f i) = true) : matQ f = true := by
  unfold matQ
  simp only [allB, Nat.zero_add, Nat.reduceAdd, h 0 (by omega), h 1 (by omega), h 2 (by omega), h 3 (by omega), Bool.and_self]
theorem both_get (acc : List Value) (h : Nat → Int) (l : List Value) (ha : acc = ivs h 0 12) (g : Nat → Int) (hl : l = ivs g 0 12) : (∀ k, k < 4 → q3 (acc ++ l) (3 * k) = accQ acc k) ∧ ∀ k, k < 4 → q3 (acc ++ l) (12 + 3 * k) = accQ l k := by
  subst ha hl
  exact ⟨get4 rfl rfl rfl rfl, get4 rfl rfl rfl rfl⟩
theorem nttT_intro {ok : Bool} {d : Nat → Option Q} (h : ok = true) (hd : ∀ i, i < 4 → ∃ v, d i = some v) : nttT 4 ok d = true := by
  unfold nttT
  obtain ⟨v0, e0⟩ := hd 0 (by omega)
  obtain ⟨v1, e1⟩ := hd 1 (by omega)
  obtain ⟨v2, e2⟩ := hd 2 (by omega)
  obtain ⟨v3, e3⟩ := hd 3 (by omega)
  simp only [h, allB, Nat.zero_add, Nat.reduceAdd, e0, e1, e2, e3, Option.isSome_some, Bool.and_self]
/-- A step of a film, told of fractions. -/
theorem step_some {c : Value} {k : Nat} {acc acc' : List Value} (hl : ∃ h : Nat → Int, acc = ivs h 0 12) (h : filmStep c k acc = some acc') :
    ∃ L : Nat → Q, (∀ i, i < 4 → layD (layX c k) (rq c k 3) i = some (L i)) ∧ (∀ i, i < 4 → validQ (accQ acc i) = true) ∧ ∀ i, i < 4 → mulM (accQ acc) L i = some (accQ acc' i) := by
  obtain ⟨g, hg⟩ := hl
  unfold filmStep at h
  split at h
  · rename_i hc
    rw [Bool.and_eq_true] at hc
    obtain ⟨c1, c2⟩ := hc
    have c1 : nttT 4 true (layD (layX c k) (rq c k 3)) = true := c1
    have hd := (nttT_ok c1).2
    have hL : ∀ i, i < 4 → layD (layX c k) (rq c k 3) i = some (accQ ((layO c k).take 12) i) := fun i hi => by
      obtain ⟨v, hv⟩ := hd i hi
      rw [hv]
      exact congrArg some (acc_ntt c1 hi hv).symm
    obtain ⟨e1, e2⟩ := both_get acc g ((layO c k).take 12) hg _ rfl
    have c2 : nttT 4 (matQ (fun j => q3 (acc ++ (layO c k).take 12) (3 * j)) && matQ (fun j => q3 (acc ++ (layO c k).take 12) (12 + 3 * j))) (mulM (fun j => q3 (acc ++ (layO c k).take 12) (3 * j)) (fun j => q3 (acc ++ (layO c k).take 12) (12 + 3 * j))) = true := c2
    obtain ⟨o1, o2⟩ := nttT_ok c2
    rw [Bool.and_eq_true] at o1
    refine ⟨accQ ((layO c k).take 12), hL, fun i hi => ?_, fun i hi => ?_⟩
    · rw [← e1 i hi]
      exact mat_get o1.1 i hi
    · obtain ⟨v, hv⟩ := o2 i hi
      have hcon := mulM_congr e1 e2 hi
      rw [← hcon, hv]
      cases h
      exact congrArg some (acc_ntt c2 hi hv).symm
  · cases h
theorem step_of {c : Value} {k : Nat} {acc : List Value} (hl : ∃ h : Nat → Int, acc = ivs h 0 12) {L A : Nat → Q} (h1 : ∀ i, i < 4 → layD (layX c k) (rq c k 3) i = some (L i)) (h2 : ∀ i, i < 4 → validQ (accQ acc i) = true)
    (h3 : ∀ i, i < 4 → mulM (accQ acc) L i = some (A i)) : ∃ acc', filmStep c k acc = some acc' ∧ ∀ i, i < 4 → accQ acc' i = A i := by
  obtain ⟨g, hg⟩ := hl
  have c1 : nttT 4 true (layD (layX c k) (rq c k 3)) = true := nttT_intro rfl fun i hi => ⟨_, h1 i hi⟩
  have eL : ∀ i, i < 4 → accQ ((layO c k).take 12) i = L i := fun i hi => acc_ntt c1 hi (h1 i hi)
  obtain ⟨e1, e2⟩ := both_get acc g ((layO c k).take 12) hg _ rfl
  have e2' : ∀ i, i < 4 → q3 (acc ++ (layO c k).take 12) (12 + 3 * i) = L i := fun i hi => (e2 i hi).trans (eL i hi)
  have hv := lay_valid h1
  have hm : ∀ i, i < 4 → mulM (fun j => q3 (acc ++ (layO c k).take 12) (3 * j)) (fun j => q3 (acc ++ (layO c k).take 12) (12 + 3 * j)) i = some (A i) := fun i hi => (mulM_congr e1 e2' hi).trans (h3 i hi)
  have c2 : nttT 4 (matQ (fun j => q3 (acc ++ (layO c k).take 12) (3 * j)) && matQ (fun j => q3 (acc ++ (layO c k).take 12) (12 + 3 * j))) (mulM (fun j => q3 (acc ++ (layO c k).take 12) (3 * j)) (fun j => q3 (acc ++ (layO c k).take 12) (12 + 3 * j))) = true := by
    refine nttT_intro ?_ fun i hi => ⟨_, hm i hi⟩
    rw [mat_intro fun i hi => by rw [e1 i hi]; exact h2 i hi, mat_intro fun i hi => by rw [e2' i hi]; exact hv i hi]
    rfl
  refine ⟨(G_iMatTimes.out (acc ++ (layO c k).take 12)).take 12, ?_, fun i hi => acc_ntt c2 hi (hm i hi)⟩
  unfold filmStep
  rw [show b0 (layO c k) 12 = true from c1, show b0 (G_iMatTimes.out (acc ++ (layO c k).take 12)) 12 = true from c2]
  rfl
theorem same_acc : ∀ i, i < 4 → accQ sameL i = idM oneQ i := get4 rfl rfl rfl rfl
/-- All that a film's matrix is: valid, of the determinant 1. -/
theorem film_facts {c : Value} : ∀ {k : Nat} {acc : List Value}, filmR c k = some acc → (∀ i, i < 4 → validQ (accQ acc i) = true) ∧ Uni (accQ acc)
  | 0, acc, h => by
    cases h
    refine ⟨fun i hi => by rw [same_acc i hi]; match i, hi with
      | 0, _ => exact oneQ_valid
      | 1, _ => exact nil1_valid
      | 2, _ => exact nil1_valid
      | 3, _ => exact oneQ_valid, ?_⟩
    unfold Uni dre dim
    dsimp only
    rw [same_acc 0 (by omega), same_acc 1 (by omega), same_acc 2 (by omega), same_acc 3 (by omega)]
    simp only [idM, oneQ_re, oneQ_im, nilQ_re, nilQ_im]
    constructor <;> grind
  | k + 1, acc, h => by
    obtain ⟨a, ha, hs⟩ := Option.bind_eq_some_iff.1 h
    obtain ⟨v, u⟩ := film_facts ha
    obtain ⟨L, l1, l2, l3⟩ := step_some (filmR_lit ha) hs
    exact ⟨fun i hi => (mul_val l3 i hi).2.2, uni_mul l3 u (lay_uni l1)⟩
theorem lay_congr {c d : Value} {k : Nat} (h : ∀ j, j < 4 → rq c k j = rq d k j) : layO c k = layO d k := by
  unfold layO
  rw [h 0 (by omega), h 1 (by omega), h 2 (by omega), h 3 (by omega)]
theorem film_congr {c d : Value} : ∀ {n : Nat}, (∀ k, k < n → ∀ j, j < 4 → rq c k j = rq d k j) → filmR c n = filmR d n
  | 0, _ => rfl
  | n + 1, h => by
    have e := lay_congr (h n (by omega))
    have hs : filmStep c n = filmStep d n := by
      funext acc
      unfold filmStep
      rw [e]
    show (filmR c n).bind (filmStep c n) = (filmR d n).bind (filmStep d n)
    rw [film_congr fun k hk => h k (by omega), hs]
theorem layP_congr {c d : Value} {k : Nat} (h : ∀ j, j < 4 → rq c k j = rq d k j) : layP c k = layP d k := by
  unfold layP
  rw [h 0 (by omega), h 1 (by omega), h 2 (by omega), h 3 (by omega)]
theorem allB_cong2 {p q : Nat → Bool} : ∀ (n k : Nat), (∀ i, k ≤ i → i < k + n → p i = q i) → allB p k n = allB q k n
  | 0, _, _ => rfl
  | n + 1, k, h => by rw [allB, allB, h k (Nat.le_refl _) (by omega), allB_cong2 n (k + 1) fun i h1 h2 => h i (by omega) (by omega)]
/-- A layer more. -/
def rowMore (c : Value) (vs : List Value) : Value := .agg (c.cells.toList ++ vs).toArray
theorem more_size {c : Value} {n : Nat} {vs : List Value} (hc : c.cells.size = n * 4) (hl : vs.length = 4) : (rowMore c vs).cells.size = (n + 1) * 4 := by
  simp only [rowMore, Value.cells, List.size_toArray, List.length_append, Array.length_toList, hl]
  have := hc
  simp only [Value.cells] at this
  omega
theorem more_old {c : Value} {n : Nat} {vs : List Value} (hc : c.cells.size = n * 4) : ∀ k, k < n → ∀ j, j < 4 → rq (rowMore c vs) k j = rq c k j := by
  intro k hk j hj
  unfold rq rowMore
  have e : (Value.agg (c.cells.toList ++ vs).toArray).cells = (c.cells.toList ++ vs).toArray := rfl
  rw [e]
  have hlt : k * 4 + j < c.cells.size := by omega
  simp [Array.getD_eq_getD_getElem?, List.getElem?_append_left (show k * 4 + j < c.cells.toList.length by simpa using hlt)]
theorem more_new {c : Value} {n : Nat} {vs : List Value} (hc : c.cells.size = n * 4) (j : Nat) : rq (rowMore c vs) n j = toI (vs.getD j undef) := by
  unfold rq rowMore
  have e : (Value.agg (c.cells.toList ++ vs).toArray).cells = (c.cells.toList ++ vs).toArray := rfl
  rw [e]
  simp [Array.getD_eq_getD_getElem?, List.getD_eq_getElem?_getD, List.getElem?_append_right (show c.cells.toList.length ≤ n * 4 + j by simp; omega), hc]
/-- Two lists of twelve numbers that hold the same fractions. -/
theorem acc_ext {g h : Nat → Int} (e : ∀ i, i < 4 → accQ (ivs g 0 12) i = accQ (ivs h 0 12) i) : ivs g 0 12 = ivs h 0 12 := by
  have t : ∀ i, i < 12 → g i = h i := fun i hi => by
    have hq : i / 3 < 4 := by omega
    have := e (i / 3) hq
    rw [acc_tri g _ hq, acc_tri h _ hq] at this
    rw [← cmp_tri g i, ← cmp_tri h i, this]
  have key : ∀ (n k : Nat), k + n ≤ 12 → ivs g k n = ivs h k n := by
    intro n
    induction n with
    | zero => intro k _; rfl
    | succ n ih => intro k hk; rw [ivs, ivs, t k (by omega), ih (k + 1) (by omega)]
  exact key 12 0 (by omega)
-- part filmtrue
theorem film_true {x c : Value} {h : Nat → Int} (e : filmV x c = ivs h 0 12 ++ [.bool true]) : filmR c (rlen x) = some (ivs h 0 12) ∧ (allB (layP c) 0 (rlen x) && decide (lenV x ≤ 8)) = true := by
  have bad : ∀ g : Nat → Int, zeros 12 ++ [Value.bool false] ≠ ivs g 0 12 ++ [.bool true] := fun g h => by
    have := congrArg (fun l => l.getD 12 undef) h
    have : Value.bool false = .bool true := this
    cases this
  unfold filmV at e
  split at e
  · rename_i hv
    unfold filmO at e
    split at e
    · rename_i acc hr
      obtain ⟨g, rfl⟩ := filmR_lit hr
      refine ⟨?_, hv⟩
      rw [hr, List.append_cancel_right e]
    · exact absurd e (bad h)
  · exact absurd e (bad h)
-- part film2
/-- A layer's matrix, in rationals. -/
def layR (c : Value) (k : Nat) : RM := ofQ fun i => (layD (layX c k) (rq c k 3) i).getD zq
theorem layR_of {c : Value} {k : Nat} {L : Nat → Q} (h : ∀ i, i < 4 → layD (layX c k) (rq c k 3) i = some (L i)) : layR c k = ofQ L := ofQ_congr fun i hi => by rw [h i hi]; rfl
theorem one_of : ofQ (accQ sameL) = RM.one := by
  refine RM.eq ?_ ?_ ?_ ?_ ?_ ?_ ?_ ?_
  · exact oneQ_re
  · exact nilQ_re
  · exact nilQ_re
  · exact oneQ_re
  · exact oneQ_im
  · exact nilQ_im
  · exact nilQ_im
  · exact oneQ_im
/-- A film's matrix is the product of its layers'. -/
theorem film_prod {c : Value} : ∀ {k : Nat} {acc : List Value}, filmR c k = some acc → ofQ (accQ acc) = prodR (layR c) k ∧ ∀ j, j < k → (layR c j).sig = layR c j
  | 0, acc, h => by cases h; exact ⟨one_of, fun j hj => by omega⟩
  | k + 1, acc, h => by
    obtain ⟨a, ha, hs⟩ := Option.bind_eq_some_iff.1 h
    obtain ⟨e1, e2⟩ := film_prod ha
    obtain ⟨L, l1, l2, l3⟩ := step_some (filmR_lit ha) hs
    refine ⟨?_, fun j hj => ?_⟩
    · rw [ofQ_mul l3, e1, prodR, layR_of l1]
    · by_cases hjk : j < k
      · exact e2 j hjk
      · obtain rfl : j = k := by omega
        rw [layR_of l1]
        exact lay_sig l1
theorem layR_congr {c d : Value} {k l : Nat} (h : ∀ j, j < 4 → rq c k j = rq d l j) : layR c k = layR d l := by
  unfold layR layX
  rw [h 0 (by omega), h 1 (by omega), h 2 (by omega), h 3 (by omega)]
/-- The matrix of the film turned round is the film's, turned over the other diagonal. -/
theorem film_back {c : Value} {n : Nat} {acc acc' : List Value} (h : filmR c n = some acc) (h' : filmR (revR c n) n = some acc') : accQ acc 0 = accQ acc' 3 ∧ accQ acc 3 = accQ acc' 0 ∧ accQ acc 1 = accQ acc' 1 ∧ accQ acc 2 = accQ acc' 2 := by
  obtain ⟨e1, e2⟩ := film_prod h
  obtain ⟨f1, f2⟩ := film_prod h'
  have hb := prodR_back (L := layR c) (M := layR (revR c n)) e2 fun k hk => layR_congr fun j hj => revR_rq c hk hj
  rw [← f1, ← e1] at hb
  have v := (film_facts h).1
  have v' := (film_facts h').1
  unfold ofQ RM.sig at hb
  simp only [RM.mk.injEq] at hb
  obtain ⟨a0, a1, a2, a3, b0', b1, b2, b3⟩ := hb
  exact ⟨val_inj (v 0 (by omega)) (v' 3 (by omega)) a0.symm b0'.symm, val_inj (v 3 (by omega)) (v' 0 (by omega)) a3.symm b3.symm, val_inj (v 1 (by omega)) (v' 1 (by omega)) a1.symm b1.symm, val_inj (v 2 (by omega)) (v' 2 (by omega)) a2.symm b2.symm⟩
theorem rev_valid {c : Value} {n : Nat} (h : allB (layP c) 0 n = true) : allB (layP (revR c n)) 0 n = true := by
  have key : ∀ (m k : Nat), k + m ≤ n → allB (layP (revR c n)) k m = true := by
    intro m
    induction m with
    | zero => intro k _; rfl
    | succ m ih =>
      intro k hk
      rw [allB, ih (k + 1) (by omega), Bool.and_true]
      have e : layP (revR c n) k = layP c (n - 1 - k) := by
        unfold layP
        rw [revR_rq c (by omega : k < n) (by omega : 0 < 4), revR_rq c (by omega : k < n) (by omega : 1 < 4), revR_rq c (by omega : k < n) (by omega : 2 < 4), revR_rq c (by omega : k < n) (by omega : 3 < 4)]
      rw [e]
      exact allB_get h _ (Nat.zero_le _) (by omega)
  exact key n 0 (by omega)
theorem rev_rev {c : Value} {n k : Nat} (hk : k < n) : sameP (revR (revR c n) n) c k = true := by
  have e : ∀ j, j < 4 → rq (revR (revR c n) n) k j = rq c k j := fun j hj => by
    rw [revR_rq _ hk hj, revR_rq c (by omega) hj, show n - 1 - (n - 1 - k) = k by omega]
  unfold sameP
  rw [e 0 (by omega), e 1 (by omega), e 2 (by omega), e 3 (by omega)]
  simp [eq4]
-- part film3
/-- What it is that a film's matrix is there. -/
theorem ok_film {x c : Value} (h : okOf x c = true) : (allB (layP c) 0 (rlen x) && decide (lenV x ≤ 8)) = true ∧ ∃ acc, filmR c (rlen x) = some acc ∧ ∀ i, i < 4 → matOf x c i = accQ acc i := by
  obtain ⟨g, t, hR⟩ := filmV_lit x c
  have ht : t = true := by
    unfold okOf at h
    rw [hR] at h
    exact h
  subst ht
  obtain ⟨h1, h2⟩ := film_true hR
  refine ⟨h2, _, h1, fun i hi => ?_⟩
  unfold matOf
  rw [hR]
  match i, hi with
  | 0, _ => rfl
  | 1, _ => rfl
  | 2, _ => rfl
  | 3, _ => rfl
theorem film_ok {x c : Value} {acc : List Value} (hV : (allB (layP c) 0 (rlen x) && decide (lenV x ≤ 8)) = true) (hr : filmR c (rlen x) = some acc) : okOf x c = true ∧ ∀ i, i < 4 → matOf x c i = accQ acc i := by
  obtain ⟨g, rfl⟩ := filmR_lit hr
  have e : filmV x c = ivs g 0 12 ++ [.bool true] := by
    unfold filmV
    rw [if_pos hV]
    unfold filmO
    rw [hr]
  refine ⟨by unfold okOf; rw [e]; rfl, fun i hi => ?_⟩
  unfold matOf
  rw [e]
  match i, hi with
  | 0, _ => rfl
  | 1, _ => rfl
  | 2, _ => rfl
  | 3, _ => rfl
-- part frl
theorem fr4_lit (o : Option Q) : fr4 o = vQ (o.getD zq) ++ [.bool o.isSome] := rfl
theorem film_lays {c : Value} : ∀ {k : Nat} {acc : List Value}, filmR c k = some acc → ∀ j, j < k → ∃ L : Nat → Q, ∀ i, i < 4 → layD (layX c j) (rq c j 3) i = some (L i)
  | 0, acc, h, j, hj => by omega
  | k + 1, acc, h, j, hj => by
    obtain ⟨a, ha, hs⟩ := Option.bind_eq_some_iff.1 h
    by_cases hjk : j < k
    · exact film_lays ha j hjk
    · obtain rfl : j = k := by omega
      obtain ⟨L, l1, _⟩ := step_some (filmR_lit ha) hs
      exact ⟨L, l1⟩
theorem and_ite (a b : Bool) : (if toB (.bool a) = true then Value.bool b else .bool false) = .bool (a && b) := by cases a <;> rfl
def clearP (c : Value) (k : Nat) : Bool := decide (rq c k 0 > 0) && decide (rq c k 0 ≤ 100) && decide (rq c k 2 ≤ 100)
def clear0 (r : Bool) (g : Nat → Int) : Bool := r && (g 1 == 0) && (g 4 == 0) && decide (g 0 > 0) && decide (g 3 > 0) && decide (g 0 ≤ 100) && decide (g 3 ≤ 100) && decide (g 2 ≤ 100) && decide (g 5 ≤ 100)
theorem film_near {c : Value} {n : Nat} {a' : Option Addr} {cap : Nat} {a b z : Q} {v : Value} {g : Nat → Int} (ha : a = (g 0, g 1, g 2)) (hb : b = (g 3, g 4, g 5)) (hok : wideOk (.slice a' n cap) c a b = true)
    (hv : WideRes (wN c n) (wT c n) (idxF a) (idxF b) n v) (hz : reflQ (matOf (.slice a' n cap) c) (okOf (.slice a' n cap) c) a b = some z)
    (h0 : clear0 (allB (fun k => rq c k 1 == 0) 0 n) g = true) (hP : allB (clearP c) 0 n = true) : ∃ e f, v = .complex .f64 e f ∧ Within e (fwF z.1 z.2.2) ∧ Within f (fwF z.2.1 z.2.2) := by
  obtain ⟨h8, hl, iA, iB, _, _⟩ := wide_facts (n := n) rfl hok
  simp only [clear0, Bool.and_eq_true, decide_eq_true_eq, beq_iff_eq] at h0
  obtain ⟨⟨⟨⟨⟨⟨⟨⟨r1, r2⟩, r3⟩, r4⟩, r5⟩, r6⟩, r7⟩, r8⟩, r9⟩ := h0
  have cA : clearI a := by
    refine ⟨(idx_val iA).1, ?_⟩
    subst ha
    exact ⟨r2, r4, r6, r8⟩
  have cB : clearI b := by
    refine ⟨(idx_val iB).1, ?_⟩
    subst hb
    exact ⟨r3, r5, r7, r9⟩
  have hx : ∀ k, k < n → clearI (layI c k) ∧ 0 ≤ rq c k 3 ∧ rq c k 3 ≤ 3 := fun k hk => by
    obtain ⟨_, t0, t3, hv⟩ := hl (n - 1 - k) (by omega)
    rw [show n - 1 - (n - 1 - k) = k by omega] at hv
    have e : wT c n (n - 1 - k) = rq c k 3 := by unfold wT; rw [show n - 1 - (n - 1 - k) = k by omega]
    rw [e] at t0 t3
    have p := allB_get hP k (Nat.zero_le _) (by omega)
    simp only [clearP, Bool.and_eq_true, decide_eq_true_eq] at p
    have q := allB_get r1 k (Nat.zero_le _) (by omega)
    have q1 : rq c k 1 = 0 := by simpa using q
    exact ⟨⟨hv, q1, p.1.1, p.1.2, p.2⟩, t0, t3⟩
  obtain ⟨_, _, _, _, h1, _⟩ := refl_some hz
  obtain ⟨_, acc, hr, hm⟩ := ok_film (ends_some h1).1
  have hr : filmR c n = some acc := hr
  have e1 : ofQ (matOf (.slice a' n cap) c) = prodR (fun k => lyM (reR (layI c k)) (rq c k 3)) n := by
    rw [ofQ_congr hm, (film_prod hr).1]
    refine prodR_congr fun k hk => ?_
    obtain ⟨L, l1⟩ := film_lays hr k hk
    rw [layR_of l1]
    obtain ⟨ck, t0, t3⟩ := hx k hk
    exact lay_M l1 (clear_im ck) (by have := (clear_rg ck).pos; grind) ⟨t0, t3⟩
  exact wide_law (x := layI c) (qt := fun k => rq c k 3) h8 (fun k hk => (hx k hk).1) (fun k hk => (hx k hk).2) cA cB hz e1 hv
set_option maxHeartbeats 4000000 in
theorem sat_FnFilmWide (P : Program) (cb : CodeB) (hk : CodeOk cb) (ins : List Value) (K : List Value → Prop) (_ : TypedL [.sl] ins) (hp : (lawF cb).pre ins) (hK : K [.bool true]) : sat P (Ss_FnFilmWide cb) tr_FnFilmWide ins [] K := by
  refine law_betw (fun v a n cap c g hn hrow hc => ?_) hp hK
  have fit : Fit4 (.slice a n cap) c := fit4_of hc (by omega)
  refine evs_step (call_step (sp := wFilmSpec) rfl (wf_use rfl rfl (a := (g 0, g 1, g 2)) (b := (g 3, g 4, g 5)) rfl rfl (n := n) rfl fit (fun hok v1 hv1 => evs_nil ?_) (fun hok => evs_nil ?_)))
  · refine evs_step (call_step (sp := wFilmSpec) rfl (wf_use rfl rfl (a := (g 0, g 1, g 2)) (b := (g 3, g 4, g 5)) rfl rfl (n := n) rfl fit (fun _ v2 hv2 => evs_nil ?_) (fun hno => ?_)))
    · obtain ⟨h8, hl, iA, iB, bA, bB⟩ := wide_facts (n := n) rfl hok
      obtain ⟨e, f, e', f', q1, q2, s1, s2⟩ := wide_same (qt := wT c n) h8 (fun k hk => (hl k hk).1) bA bB hv1 hv2
      subst q1 q2
      show sat P _ _ [v, .slice a n cap, .int .i64 (g 0), .int .i64 (g 1), .int .i64 (g 2), .int .i64 (g 3), .int .i64 (g 4), .int .i64 (g 5), c, .complex .f64 e f, .bool true, .complex .f64 e' f', .bool true] [] K
      refine evs_step ⟨fun _ => ⟨e, f, e', f', rfl, s1, s2, evs_nil (sat_ite0 rfl ?_)⟩, fun h => (by cases h)⟩
      generalize ho : reflQ (matOf (.slice a n cap) c) (okOf (.slice a n cap) c) (g 0, g 1, g 2) (g 3, g 4, g 5) = o
      refine evs_step (call_step (sp := G_iFilmReflected.spec) rfl ⟨fit, evs_nil ?_⟩)
      show sat P _ _ ([v, .slice a n cap, .int .i64 (g 0), .int .i64 (g 1), .int .i64 (g 2), .int .i64 (g 3), .int .i64 (g 4), .int .i64 (g 5), c, .complex .f64 e f, .bool true, .complex .f64 e' f', .bool true, .bool true] ++ fr4 (reflQ (matOf (.slice a n cap) c) (okOf (.slice a n cap) c) (g 0, g 1, g 2) (g 3, g 4, g 5))) _ K
      rw [ho, fr4_lit]
      have tail : ∀ (w : Value) (t : Bool), (∀ z, o = some z → t = true → w = cxv (idxF z)) → (∃ u, w = cxv u) → sat P (Ss_FnFilmWide cb)
          (.evs [.call 6 [(.var 1), (.var 8)] none 1]
           (.lp 0 [(.int .i64 0), (.ite (.ite (.ite (.ite (.ite (.ite (.ite (.ite (.var 20) (.cmp .eql (.var 3) (.int .i64 0)) (.bool false)) (.cmp .eql (.var 6) (.int .i64 0)) (.bool false)) (.cmp .gtr (.var 2) (.int .i64 0)) (.bool false)) (.cmp .gtr (.var 5) (.int .i64 0)) (.bool false)) (.cmp .leq (.var 2) (.int .i64 100)) (.bool false)) (.cmp .leq (.var 5) (.int .i64 100)) (.bool false)) (.cmp .leq (.var 4) (.int .i64 100)) (.bool false)) (.cmp .leq (.var 7) (.int .i64 100)) (.bool false))] [.int .i64, .bool]
            (.ite (.cmp .lss (.var 21) (.len (.var 1)))
             (.evs [.need [(.inb (.var 8) (.var 21) 4)]]
              (.next 0 [(.ar .add .i64 (.var 21) (.int .i64 1)), (.ite (.ite (.ite (.var 22) (.cmp .gtr (.sel (.var 8) (.var 21) 4 0) (.int .i64 0)) (.bool false)) (.cmp .leq (.sel (.var 8) (.var 21) 4 0) (.int .i64 100)) (.bool false)) (.cmp .leq (.sel (.var 8) (.var 21) 4 2) (.int .i64 100)) (.bool false))]))
             (.evs [.call 7 [(.cre (.var 9)), (.cre (.var 18)), (.val (.float .f64 4472406533629990549))] (some (.not (.ite (.ite (.not (.var 17)) (.bool true) (.not (.var 19))) (.bool true) (.not (.var 22))))) 1,
                .call 7 [(.cim (.var 9)), (.cim (.var 18)), (.val (.float .f64 4472406533629990549))] (some (.ite (.not (.ite (.ite (.not (.var 17)) (.bool true) (.not (.var 19))) (.bool true) (.not (.var 22)))) (.var 23) (.bool false))) 1]
              (.ret [(.ite (.ite (.ite (.not (.var 17)) (.bool true) (.not (.var 19))) (.bool true) (.not (.var 22))) (.bool true) (.ite (.var 23) (.var 24) (.bool false)))])))))
          ([v, .slice a n cap, .int .i64 (g 0), .int .i64 (g 1), .int .i64 (g 2), .int .i64 (g 3), .int .i64 (g 4), .int .i64 (g 5), c, .complex .f64 e f, .bool true, .complex .f64 e' f', .bool true, .bool true] ++ (vQ (o.getD zq) ++ [.bool o.isSome]) ++ [w, .bool t]) [] K := by
        intro w t hw ⟨u, hu⟩
        generalize o.getD zq = zz at *
        obtain ⟨z0, z1, z2⟩ := zz
        refine evs_step (call_step (sp := F_realFilm.spec) rfl ⟨fit, evs_nil ?_⟩)
        show sat P _ _ [v, .slice a n cap, .int .i64 (g 0), .int .i64 (g 1), .int .i64 (g 2), .int .i64 (g 3), .int .i64 (g 4), .int .i64 (g 5), c, .complex .f64 e f, .bool true, .complex .f64 e' f', .bool true, .bool true, .int .i64 z0, .int .i64 z1, .int .i64 z2, .bool o.isSome, w, .bool t, .bool (allB (fun k => rq c k 1 == 0) 0 n)] _ K
        generalize hC : clear0 (allB (fun k => rq c k 1 == 0) 0 n) g = C
        refine ⟨fun vs => ∃ k : Nat, k ≤ n ∧ vs = [.int .i64 k, .bool (C && allB (clearP c) 0 k)], fun vs => n - (toI (vs.getD 0 undef)).toNat, ⟨0, Nat.zero_le _, ?_⟩, ?_⟩
        · have e : ∀ b1 b2 b3 b4 b5 b6 b7 b8 b9 : Bool, (if toB (if toB (if toB (if toB (if toB (if toB (if toB (if toB (Value.bool b1) = true then Value.bool b2 else .bool false) = true then Value.bool b3 else .bool false) = true then Value.bool b4 else .bool false) = true then Value.bool b5 else .bool false) = true then Value.bool b6 else .bool false) = true then Value.bool b7 else .bool false) = true then Value.bool b8 else .bool false) = true then Value.bool b9 else .bool false) = .bool (b1 && b2 && b3 && b4 && b5 && b6 && b7 && b8 && b9) := fun _ _ _ _ _ _ _ _ _ => by simp only [and_ite]
          have e2 := e (allB (fun k => rq c k 1 == 0) 0 n) (g 1 == 0) (g 4 == 0) (decide (g 0 > 0)) (decide (g 3 > 0)) (decide (g 0 ≤ 100)) (decide (g 3 ≤ 100)) (decide (g 2 ≤ 100)) (decide (g 5 ≤ 100))
          have e3 : (allB (fun k => rq c k 1 == 0) 0 n && (g 1 == 0) && (g 4 == 0) && decide (g 0 > 0) && decide (g 3 > 0) && decide (g 0 ≤ 100) && decide (g 3 ≤ 100) && decide (g 2 ≤ 100) && decide (g 5 ≤ 100)) = (C && allB (clearP c) 0 0) := by rw [← hC]; exact (Bool.and_true _).symm
          rw [e3] at e2
          exact congrArg (fun q => [Value.int .i64 0, q]) e2
        rintro vs hty ⟨k, hk, rfl⟩
        refine sat_ite (b := decide ((k : Int) < (n : Int))) rfl (fun h => ?_) (fun h => ?_)
        · have hlt : k < n := by simpa using h
          have hin := inb_ok hc hlt
          refine evs_step ⟨fun e he => by rw [List.mem_singleton.1 he]; exact hin, evs_nil ?_⟩
          have e : ∀ b1 b2 b3 b4 : Bool, (if toB (if toB (if toB (Value.bool b1) = true then Value.bool b2 else .bool false) = true then Value.bool b3 else .bool false) = true then Value.bool b4 else .bool false) = .bool (b1 && b2 && b3 && b4) := fun _ _ _ _ => by simp only [and_ite]
          have e2 := e (C && allB (clearP c) 0 k) (decide (rq c k 0 > 0)) (decide (rq c k 0 ≤ 100)) (decide (rq c k 2 ≤ 100))
          have e3 : ((C && allB (clearP c) 0 k) && decide (rq c k 0 > 0) && decide (rq c k 0 ≤ 100) && decide (rq c k 2 ≤ 100)) = (C && allB (clearP c) 0 (k + 1)) := by
            rw [allB_snoc, Nat.zero_add]
            simp only [clearP, Bool.and_assoc]
          rw [e3] at e2
          refine ⟨⟨k + 1, by omega, ?_⟩, ?_⟩
          · have e4 : Value.int .i64 (IntKind.i64.wrap ((k : Int) + 1)) = .int .i64 ((k + 1 : Nat) : Int) := congrArg (Value.int .i64) (wrap_next hlt (by omega))
            have e5 : ∀ p q : Value, Value.int .i64 (IntKind.i64.wrap ((k : Int) + 1)) = p → (if toB (if toB (if toB (Value.bool (C && allB (clearP c) 0 k)) = true then Value.bool (decide (rq c k 0 > 0)) else .bool false) = true then Value.bool (decide (rq c k 0 ≤ 100)) else .bool false) = true then Value.bool (decide (rq c k 2 ≤ 100)) else .bool false) = q → [Value.int .i64 (IntKind.i64.wrap ((k : Int) + 1)), (if toB (if toB (if toB (Value.bool (C && allB (clearP c) 0 k)) = true then Value.bool (decide (rq c k 0 > 0)) else .bool false) = true then Value.bool (decide (rq c k 0 ≤ 100)) else .bool false) = true then Value.bool (decide (rq c k 2 ≤ 100)) else .bool false)] = [p, q] := fun p q h1 h2 => by rw [h1, h2]
            exact e5 _ _ e4 e2
          · show n - (toI (.int .i64 (IntKind.i64.wrap ((k : Int) + 1)))).toNat < n - (toI (.int .i64 (k : Int))).toNat
            rw [wrap_next hlt (by omega)]
            simp only [toI_int, Int.toNat_natCast]
            omega
        · have hge : ¬ k < n := by simpa using h
          obtain rfl : k = n := by omega
          have skip : (o.isSome && t && (C && allB (clearP c) 0 k)) = false → sat P (Ss_FnFilmWide cb) (.evs [.call 7 [(.cre (.var 9)), (.cre (.var 18)), (.val (.float .f64 4472406533629990549))] (some (.not (.ite (.ite (.not (.var 17)) (.bool true) (.not (.var 19))) (.bool true) (.not (.var 22))))) 1,
                .call 7 [(.cim (.var 9)), (.cim (.var 18)), (.val (.float .f64 4472406533629990549))] (some (.ite (.not (.ite (.ite (.not (.var 17)) (.bool true) (.not (.var 19))) (.bool true) (.not (.var 22)))) (.var 23) (.bool false))) 1]
              (.ret [(.ite (.ite (.ite (.not (.var 17)) (.bool true) (.not (.var 19))) (.bool true) (.not (.var 22))) (.bool true) (.ite (.var 23) (.var 24) (.bool false)))])) ([v, .slice a k cap, .int .i64 (g 0), .int .i64 (g 1), .int .i64 (g 2), .int .i64 (g 3), .int .i64 (g 4), .int .i64 (g 5), c, .complex .f64 e f, .bool true, .complex .f64 e' f', .bool true, .bool true, .int .i64 z0, .int .i64 z1, .int .i64 z2, .bool o.isSome, w, .bool t, .bool (allB (fun k => rq c k 1 == 0) 0 k)] ++ [.int .i64 k, .bool (C && allB (clearP c) 0 k)]) [] K := fun hs => by
            generalize (C && allB (clearP c) 0 k) = CC at *
            generalize o.isSome = os at *
            cases os <;> cases t <;> cases CC <;> first
              | exact evs_step ⟨fun h => (by cases h), fun _ => ⟨fun h => (by cases h), fun _ => evs_nil hK⟩⟩
              | cases hs
          cases hall : (o.isSome && t && (C && allB (clearP c) 0 k)) with
          | false => exact skip hall
          | true =>
            simp only [Bool.and_eq_true] at hall
            obtain ⟨⟨a1, a2⟩, a3, a4⟩ := hall
            obtain ⟨z, hz⟩ := Option.isSome_iff_exists.1 a1
            have hwz := hw z hz a2
            subst hwz
            rw [hz] at ho
            have a3' : clear0 (allB (fun k => rq c k 1 == 0) 0 k) g = true := by rw [hC]; exact a3
            obtain ⟨e1, f1, q1, w1, w2⟩ := film_near (c := c) (n := k) (a' := a) (cap := cap) (g := g) rfl rfl hok hv1 ho a3' a4
            cases q1
            obtain ⟨⟨p1, p2, p3⟩, p4, p5, p6⟩ := w1
            obtain ⟨⟨r1, r2, r3⟩, r4, r5, r6⟩ := w2
            rw [a1, a2, a3, a4]
            refine evs_step ⟨fun _ => ⟨_, _, _, p1, p4, rfl, ⟨p2, p3⟩, ⟨p5, p6⟩, ?_⟩, fun h => (by cases h)⟩
            exact ⟨fun _ => ⟨_, _, _, r1, r4, rfl, ⟨r2, r3⟩, ⟨r5, r6⟩, evs_nil hK⟩, fun h => (by cases h)⟩
      refine evs_step (call_step (sp := fWideSpec) rfl ⟨fun hv => evs_nil ?_, fun hv => evs_nil ?_⟩)
      · refine tail (cxv (idxF (o.getD zq))) true (fun z hz _ => by rw [hz]; rfl) ⟨_, rfl⟩
      · refine tail (cxv (0, 0)) false (fun z hz h => by cases h) ⟨_, rfl⟩
    · exact absurd (hno.symm.trans hok) (by decide)
  · refine evs_step (call_step (sp := wFilmSpec) rfl (wf_use rfl rfl (a := (g 0, g 1, g 2)) (b := (g 3, g 4, g 5)) rfl rfl (n := n) rfl fit (fun hyes v2 hv2 => ?_) (fun _ => evs_nil ?_)))
    · exact absurd (hok.symm.trans hyes) (by decide)
    · refine evs_step ⟨fun _ => ⟨0, 0, 0, 0, rfl, .inl rfl, .inl rfl, evs_nil (sat_ite1 rfl ?_)⟩, fun h => (by cases h)⟩
      exact evs_step ⟨fun _ => ⟨0, 0, 0, 0, rfl, .inl rfl, .inl rfl, evs_nil hK⟩, fun h => (by cases h)⟩

end Go.Sx

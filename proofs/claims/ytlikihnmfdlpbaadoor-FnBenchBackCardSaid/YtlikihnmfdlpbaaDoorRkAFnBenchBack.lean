/- What the functions reckon, by their trees. -/
import Derived.Test.YtlikihnmfdlpbaaDoorEf
import Derived.KernelRfl
namespace Go.Sx
open Go
set_option maxRecDepth 100000
set_option linter.unusedSimpArgs false
set_option linter.unusedVariables false

def tr_size : Tr :=
  (.ret [(.mx false .i64 (.var 0) (.ar .sub .i64 (.int .i64 0) (.var 0)))])
def Fs_size : List Fun1 := []
def F_size : Fun1 := ofTree Fs_size tr_size

def tr_within : Tr :=
  (.ret [(.ite (.cmp .geq (.var 0) (.var 1)) (.cmp .leq (.var 0) (.var 2)) (.bool false))])
def Fs_within : List Fun1 := []
def F_within : Fun1 := ofTree Fs_within tr_within
def G_within : Fun1 := ⟨fun _ => True, fun ins => [.bool (inRg (i0 ins 0) (i0 ins 1) (i0 ins 2))]⟩
theorem as_within (ins : List Value) (ht : TypedL [.int .i64, .int .i64, .int .i64] ins) (_ : G_within.pre ins) : F_within.pre ins ∧ F_within.out ins = G_within.out ins := by
  obtain ⟨a, b, c, rfl, _, _, _⟩ := ints3 ht
  refine ⟨trivial, ?_⟩
  show [if (decide (a ≥ b)) = true then Value.bool (decide (a ≤ c)) else Value.bool false] = [Value.bool (decide (b ≤ a) && decide (a ≤ c))]
  by_cases h : b ≤ a <;> simp [h]

def tr_l6In : Tr :=
  (.ret [(.ite (.cmp .geq (.var 0) (.var 1)) (.cmp .leq (.var 0) (.var 2)) (.bool false))])
def Fs_l6In : List Fun1 := []
def F_l6In : Fun1 := ofTree Fs_l6In tr_l6In
def G_l6In : Fun1 := ⟨fun _ => True, fun ins => [.bool (inRg (i0 ins 0) (i0 ins 1) (i0 ins 2))]⟩
theorem as_l6In (ins : List Value) (ht : TypedL [.int .i64, .int .i64, .int .i64] ins) (_ : G_l6In.pre ins) : F_l6In.pre ins ∧ F_l6In.out ins = G_l6In.out ins := by
  obtain ⟨a, b, c, rfl, _, _, _⟩ := ints3 ht
  refine ⟨trivial, ?_⟩
  show [if (decide (a ≥ b)) = true then Value.bool (decide (a ≤ c)) else Value.bool false] = [Value.bool (decide (b ≤ a) && decide (a ≤ c))]
  by_cases h : b ≤ a <;> simp [h]
def A_l6In : AF := aAny 1
theorem aok_l6In {cb : CodeB} : AOK cb G_l6In A_l6In := aAny_ok (fun _ => trivial) (fun ins => by rfl)

def tr_l2In : Tr :=
  (.evs [.call 0 [(.var 0), (.int .i64 (-2000000000)), (.int .i64 2000000000)] none 1]
  (.ret [(.var 1)]))
def Fs_l2In : List Fun1 := [G_l6In]
def F_l2In : Fun1 := ofTree Fs_l2In tr_l2In
def G_l2In : Fun1 := ⟨fun _ => True, fun ins => [.bool (inR (i0 ins 0))]⟩
theorem as_l2In (ins : List Value) (ht : TypedL [.int .i64] ins) (_ : G_l2In.pre ins) : F_l2In.pre ins ∧ F_l2In.out ins = G_l2In.out ins := by
  obtain ⟨a, rfl, _⟩ := ints1 ht
  exact ⟨⟨⟨trivial, trivial⟩, trivial⟩, rfl⟩

def tr_divisor : Tr :=
  (.lp 0 [(.var 0), (.var 1)] [.int .i64, .int .i64]
  (.ite (.cmp .neq (.var 3) (.int .i64 0))
   (.evs [.need [(.cmp .neq (.var 3) (.int .i64 0))]]
    (.next 0 [(.var 3), (.ar .rem .i64 (.var 2) (.var 3))]))
   (.ret [(.var 2)])))
def Fs_divisor : List Fun1 := []
def F_divisor : Fun1 := ⟨fun _ => True, fun ins => [.int .i64 (euc (i0 ins 0) (i0 ins 1))]⟩
theorem sat_divisor (P : Program) (ins : List Value) (K : List Value → Prop) (ht : TypedL [.int .i64, .int .i64] ins) (_ : F_divisor.pre ins) (hK : K (F_divisor.out ins)) : sat P (specsOf Fs_divisor) tr_divisor ins [] K := by
  obtain ⟨a, b, rfl, wa, wb⟩ := ints2 ht
  refine ⟨fun vs => ∃ x y, vs = [.int .i64 x, .int .i64 y] ∧ euc x y = euc a b, fun vs => (toI (vs.getD 1 undef)).natAbs, ⟨a, b, rfl, rfl⟩, ?_⟩
  rintro vs hty ⟨x, y, rfl, he⟩
  refine ⟨fun hc => ?_, fun hc => ?_⟩
  · have hy : y ≠ 0 := by simpa [ev, cmpI] using hc
    refine ⟨fun e he' => by rw [List.mem_singleton.1 he']; exact hc, ⟨_, _, rfl, ?_⟩, ?_⟩
    · rw [← he, euc_step hy]; rfl
    · show (x.tmod y).natAbs < y.natAbs
      rw [Int.natAbs_tmod]
      exact Nat.mod_lt _ (by omega)
  · have hy : y = 0 := by simpa [ev, cmpI] using hc
    subst hy
    rw [euc_zero] at he
    show K [.int .i64 x]
    rw [he]
    exact hK

def tr_l2Gcd : Tr :=
  (.lp 0 [(.var 0), (.var 1)] [.int .i64, .int .i64]
  (.ite (.cmp .neq (.var 3) (.int .i64 0))
   (.evs [.need [(.cmp .neq (.var 3) (.int .i64 0))]]
    (.next 0 [(.var 3), (.ar .rem .i64 (.var 2) (.var 3))]))
   (.ret [(.mx false .i64 (.var 2) (.ar .sub .i64 (.int .i64 0) (.var 2)))])))
def Fs_l2Gcd : List Fun1 := []
def F_l2Gcd : Fun1 := ⟨fun _ => True, fun ins => [.int .i64 (mxI false (euc (i0 ins 0) (i0 ins 1)) (IntKind.i64.wrap (0 - euc (i0 ins 0) (i0 ins 1))))]⟩
theorem sat_l2Gcd (P : Program) (ins : List Value) (K : List Value → Prop) (ht : TypedL [.int .i64, .int .i64] ins) (_ : F_l2Gcd.pre ins) (hK : K (F_l2Gcd.out ins)) : sat P (specsOf Fs_l2Gcd) tr_l2Gcd ins [] K := by
  obtain ⟨a, b, rfl, wa, wb⟩ := ints2 ht
  refine ⟨fun vs => ∃ x y, vs = [.int .i64 x, .int .i64 y] ∧ euc x y = euc a b, fun vs => (toI (vs.getD 1 undef)).natAbs, ⟨a, b, rfl, rfl⟩, ?_⟩
  rintro vs hty ⟨x, y, rfl, he⟩
  refine ⟨fun hc => ?_, fun hc => ?_⟩
  · have hy : y ≠ 0 := by simpa [ev, cmpI] using hc
    refine ⟨fun e he' => by rw [List.mem_singleton.1 he']; exact hc, ⟨_, _, rfl, ?_⟩, ?_⟩
    · rw [← he, euc_step hy]; rfl
    · show (x.tmod y).natAbs < y.natAbs
      rw [Int.natAbs_tmod]
      exact Nat.mod_lt _ (by omega)
  · have hy : y = 0 := by simpa [ev, cmpI] using hc
    subst hy
    rw [euc_zero] at he
    show K [.int .i64 (mxI false x (IntKind.i64.wrap (0 - x)))]
    rw [he]
    exact hK

def tr_lowest : Tr :=
  (.evs [.call 0 [(.var 0)] none 1,
    .call 0 [(.var 1)] none 1,
    .call 1 [(.var 3), (.var 4)] none 1,
    .call 1 [(.var 5), (.var 2)] none 1]
  (.evs [.need [(.cmp .neq (.var 6) (.int .i64 0)), (.cmp .neq (.var 6) (.int .i64 0)), (.cmp .neq (.var 6) (.int .i64 0))]]
  (.evs [.call 2 [(.ar .quo .i64 (.var 0) (.var 6)), (.int .i64 (-2000000000)), (.int .i64 2000000000)] none 1,
    .call 2 [(.ar .quo .i64 (.var 1) (.var 6)), (.int .i64 (-2000000000)), (.int .i64 2000000000)] (some (.not (.not (.var 7)))) 1]
  (.ite (.ite (.ite (.not (.var 7)) (.bool true) (.not (.var 8))) (.bool true) (.cmp .gtr (.ar .quo .i64 (.var 2) (.var 6)) (.int .i64 2000000000)))
  (.ret [(.int .i64 0), (.int .i64 0), (.int .i64 0), (.bool false)])
  (.ret [(.ar .quo .i64 (.var 0) (.var 6)), (.ar .quo .i64 (.var 1) (.var 6)), (.ar .quo .i64 (.var 2) (.var 6)), (.bool true)])))))
def Fs_lowest : List Fun1 := [F_size, F_divisor, G_within]
def F_lowest : Fun1 := ofTree Fs_lowest tr_lowest
def G_lowest : Fun1 := ⟨fun ins => lowOk (i0 ins 0) (i0 ins 1) (i0 ins 2), fun ins => fr4 (lowI (i0 ins 0) (i0 ins 1) (i0 ins 2))⟩
theorem as_lowest (ins : List Value) (ht : TypedL [.int .i64, .int .i64, .int .i64] ins) (hp : G_lowest.pre ins) : F_lowest.pre ins ∧ F_lowest.out ins = G_lowest.out ins := by
  obtain ⟨a, b, c, rfl, wa, wb, wc⟩ := ints3 ht
  obtain ⟨p1, p2, p3, p4, p5, p6⟩ : lowOk a b c := hp
  have e1 := size_abs ⟨p1, p2⟩
  have e2 := size_abs ⟨p3, p4⟩
  have e3 : euc (a.natAbs : Nat) (b.natAbs : Nat) = (Nat.gcd a.natAbs b.natAbs : Nat) := euc_nat _ _
  have e4 : euc (Nat.gcd a.natAbs b.natAbs : Nat) c = (gcd3 a b c : Nat) := by rw [euc_eq (by omega) (by omega)]; rfl
  have hg : gcd3 a b c ≠ 0 := by have := gcd3_pos (a := a) (b := b) p5; omega
  have hgi : ((gcd3 a b c : Nat) : Int) ≠ 0 := by omega
  have q1 := quo_ok (g := gcd3 a b c) ⟨p1, p2⟩
  have q2 := quo_ok (g := gcd3 a b c) ⟨p3, p4⟩
  have q3 := quo_ok (a := c) (g := gcd3 a b c) ⟨by omega, p6⟩
  simp only [F_lowest, G_lowest, tr_lowest, Fs_lowest, F_size, tr_size, Fs_size, F_divisor, G_within, lowI, arI, ofTree, okT, okE, evalT, evalE, evsIn, ev, callF, preF, hasF, needs, i0, b0, toI_int, toB_bool, List.getD_cons_zero, List.getD_cons_succ, List.cons_append, List.nil_append, List.replicate, if_true, if_false, Bool.false_eq_true, and_true, true_and, implies_true, forall_const, false_implies, cmpI, Bool.not_true, Bool.not_false, Bool.true_and, Bool.false_and, Bool.and_true, Bool.and_false, reduceIte, List.append_nil, reduceCtorEq, e1, e2, e3, e4, q1, q2, q3]
  have r1 : ∀ z, inRg z (-2000000000) 2000000000 = inR z := fun _ => rfl
  simp only [r1]
  cases h1 : inR (a.tdiv (gcd3 a b c)) <;> cases h2 : inR (b.tdiv (gcd3 a b c)) <;> by_cases h3 : c.tdiv (gcd3 a b c) ≤ 2000000000 <;> simp [h1, h2, h3, hgi, hg, fr4, zq] <;> omega

def tr_sFracValid : Tr :=
  (.evs [.call 0 [(.var 0)] none 1,
    .call 0 [(.var 1)] (some (.var 3)) 1,
    .call 1 [(.var 2), (.int .i64 1), (.int .i64 2000000000)] (some (.ite (.var 3) (.var 4) (.bool false))) 1,
    .call 2 [(.var 2), (.var 0)] (some (.ite (.ite (.var 3) (.var 4) (.bool false)) (.var 5) (.bool false))) 1,
    .call 2 [(.var 6), (.var 1)] (some (.ite (.ite (.var 3) (.var 4) (.bool false)) (.var 5) (.bool false))) 1]
  (.ret [(.ite (.ite (.ite (.var 3) (.var 4) (.bool false)) (.var 5) (.bool false)) (.cmp .eql (.var 7) (.int .i64 1)) (.bool false))]))
def Fs_sFracValid : List Fun1 := [G_l2In, G_l6In, F_l2Gcd]
def F_sFracValid : Fun1 := ofTree Fs_sFracValid tr_sFracValid
def G_sFracValid : Fun1 := ⟨fun _ => True, fun ins => [.bool (validI (i0 ins 0) (i0 ins 1) (i0 ins 2))]⟩
theorem as_sFracValid (ins : List Value) (ht : TypedL [.int .i64, .int .i64, .int .i64] ins) (_ : G_sFracValid.pre ins) : F_sFracValid.pre ins ∧ F_sFracValid.out ins = G_sFracValid.out ins := by
  obtain ⟨a, b, c, rfl, wa, wb, wc⟩ := ints3 ht
  have key : inR a = true → inR b = true → inRg c 1 2000000000 = true → mxI false (euc c a) (IntKind.i64.wrap (0 - euc c a)) = (Nat.gcd c.natAbs a.natAbs : Nat) ∧
      mxI false (euc (Nat.gcd c.natAbs a.natAbs : Nat) b) (IntKind.i64.wrap (0 - euc (Nat.gcd c.natAbs a.natAbs : Nat) b)) = (gcd3 a b c : Nat) := by
    intro ha hb hc
    simp only [inR, inRg, Bool.and_eq_true, decide_eq_true_eq] at ha hb hc
    have h0 : Nat.gcd c.natAbs a.natAbs ≤ c.natAbs := Nat.gcd_le_left _ (by omega)
    have hp : 0 < Nat.gcd c.natAbs a.natAbs := Nat.gcd_pos_of_pos_left _ (by omega)
    refine ⟨gcd_small (by omega), ?_⟩
    have h2 : Nat.gcd ((Nat.gcd c.natAbs a.natAbs : Nat) : Int).natAbs b.natAbs ≤ Nat.gcd c.natAbs a.natAbs := Nat.gcd_le_left _ hp
    rw [gcd_small (by omega), Int.natAbs_natCast, gcd3_alt]
  simp only [F_sFracValid, G_sFracValid, tr_sFracValid, Fs_sFracValid, G_l2In, G_l6In, F_l2Gcd, validI, ofTree, okT, okE, evalT, evalE, evsIn, ev, callF, preF, hasF, needs, i0, b0, toI_int, toB_bool, List.getD_cons_zero, List.getD_cons_succ, List.cons_append, List.nil_append, List.replicate, if_true, if_false, Bool.false_eq_true, and_true, true_and, implies_true, forall_const, false_implies, cmpI, Bool.not_true, Bool.not_false, Bool.true_and, Bool.false_and, Bool.and_true, Bool.and_false, reduceIte, List.append_nil, reduceCtorEq]
  cases ha : inR a
  · simp [ha]
  · cases hb : inR b
    · simp [ha, hb]
    · cases hc : inRg c 1 2000000000
      · simp [ha, hb, hc]
      · obtain ⟨k1, k2⟩ := key ha hb hc
        simp only [ha, hb, hc, k1, k2, ofTree, okT, okE, evalT, evalE, evsIn, ev, callF, preF, hasF, needs, i0, b0, toI_int, toB_bool, List.getD_cons_zero, List.getD_cons_succ, List.cons_append, List.nil_append, List.replicate, if_true, if_false, Bool.false_eq_true, and_true, true_and, implies_true, forall_const, false_implies, cmpI, Bool.not_true, Bool.not_false, Bool.true_and, Bool.false_and, Bool.and_true, Bool.and_false, reduceIte, List.append_nil, reduceCtorEq]
        simp
        by_cases h1 : gcd3 a b c = 1
        · simp [h1]
        · rw [beq_eq_false_iff_ne.2 h1, beq_eq_false_iff_ne]
          omega

def tr_l2Low : Tr :=
  (.evs [.call 0 [(.var 2), (.var 0)] none 1,
    .call 0 [(.var 3), (.var 1)] none 1]
  (.evs [.need [(.cmp .neq (.var 4) (.int .i64 0)), (.cmp .neq (.var 4) (.int .i64 0)), (.cmp .neq (.var 4) (.int .i64 0))]]
  (.evs [.call 1 [(.ar .quo .i64 (.var 0) (.var 4)), (.ar .quo .i64 (.var 1) (.var 4)), (.ar .quo .i64 (.var 2) (.var 4))] none 1]
  (.ite (.not (.var 5))
  (.ret [(.int .i64 0), (.int .i64 0), (.int .i64 0), (.bool false)])
  (.ret [(.ar .quo .i64 (.var 0) (.var 4)), (.ar .quo .i64 (.var 1) (.var 4)), (.ar .quo .i64 (.var 2) (.var 4)), (.bool true)])))))
def Fs_l2Low : List Fun1 := [F_l2Gcd, G_sFracValid]
def F_l2Low : Fun1 := ofTree Fs_l2Low tr_l2Low
def G_l2Low : Fun1 := ⟨fun ins => lowOk (i0 ins 0) (i0 ins 1) (i0 ins 2), fun ins => fr4 (lowI (i0 ins 0) (i0 ins 1) (i0 ins 2))⟩
theorem as_l2Low (ins : List Value) (ht : TypedL [.int .i64, .int .i64, .int .i64] ins) (hp : G_l2Low.pre ins) : F_l2Low.pre ins ∧ F_l2Low.out ins = G_l2Low.out ins := by
  obtain ⟨a, b, c, rfl, wa, wb, wc⟩ := ints3 ht
  obtain ⟨p1, p2, p3, p4, p5, p6⟩ : lowOk a b c := hp
  have hc0 : 0 < c.natAbs := by omega
  have g1 : Nat.gcd c.natAbs a.natAbs ≤ c.natAbs := Nat.gcd_le_left _ hc0
  have gp : 0 < Nat.gcd c.natAbs a.natAbs := Nat.gcd_pos_of_pos_left _ hc0
  have e1 : mxI false (euc c a) (IntKind.i64.wrap (0 - euc c a)) = (Nat.gcd c.natAbs a.natAbs : Nat) := gcd_small (by omega)
  have g2 : Nat.gcd ((Nat.gcd c.natAbs a.natAbs : Nat) : Int).natAbs b.natAbs ≤ Nat.gcd c.natAbs a.natAbs := Nat.gcd_le_left _ gp
  have e2 : mxI false (euc (Nat.gcd c.natAbs a.natAbs : Nat) b) (IntKind.i64.wrap (0 - euc (Nat.gcd c.natAbs a.natAbs : Nat) b)) = (gcd3 a b c : Nat) := by
    rw [gcd_small (by omega), Int.natAbs_natCast, gcd3_alt]
  have hg : gcd3 a b c ≠ 0 := by have := gcd3_pos (a := a) (b := b) p5; omega
  have hgi : ((gcd3 a b c : Nat) : Int) ≠ 0 := by omega
  have q1 := quo_ok (g := gcd3 a b c) ⟨p1, p2⟩
  have q2 := quo_ok (g := gcd3 a b c) ⟨p3, p4⟩
  have q3 := quo_ok (a := c) (g := gcd3 a b c) ⟨by omega, p6⟩
  simp only [F_l2Low, G_l2Low, tr_l2Low, Fs_l2Low, F_l2Gcd, G_sFracValid, lowI, arI, ofTree, okT, okE, evalT, evalE, evsIn, ev, callF, preF, hasF, needs, i0, b0, toI_int, toB_bool, List.getD_cons_zero, List.getD_cons_succ, List.cons_append, List.nil_append, List.replicate, if_true, if_false, Bool.false_eq_true, and_true, true_and, implies_true, forall_const, false_implies, cmpI, Bool.not_true, Bool.not_false, Bool.true_and, Bool.false_and, Bool.and_true, Bool.and_false, reduceIte, List.append_nil, reduceCtorEq, e1, e2, q1, q2, q3, valid_low p5]
  cases h1 : inR (a.tdiv (gcd3 a b c)) <;> cases h2 : inR (b.tdiv (gcd3 a b c)) <;> by_cases h3 : c.tdiv (gcd3 a b c) ≤ 2000000000 <;> simp [h1, h2, h3, hgi, hg, fr4, zq] <;> omega
def A_l2Low : AF
  | [.itv a b, .itv c d, .itv e f] => if decide (-9223372036854775808 < a) && (decide (b ≤ 9223372036854775807) && (decide (-9223372036854775808 < c) && (decide (d ≤ 9223372036854775807) && (decide (1 ≤ e) && decide (f ≤ 9223372036854775807))))) then some [.any, .any, .any, .any] else none
  | _ => none
theorem aok_l2Low {cb : CodeB} : AOK cb G_l2Low A_l2Low := by
  intro I O h ins hi
  match I, ins, hi, h with
  | [.itv a b, .itv c d, .itv e f], [x, y, z], ⟨⟨x', hx, x1, x2⟩, ⟨y', hy, y1, y2⟩, ⟨z', hz, z1, z2⟩, _⟩, h =>
    simp only [A_l2Low] at h
    split at h
    · rename_i hc
      cases h
      simp only [Bool.and_eq_true, decide_eq_true_eq] at hc
      subst hx hy hz
      exact ⟨show lowOk x' y' z' by unfold lowOk; omega, trivial, trivial, trivial, trivial, trivial⟩
    · cases h

def tr_sFracMake : Tr :=
  (.evs [.call 0 [(.var 2), (.int .i64 1), (.int .i64 1000000000000000000)] none 1,
    .call 0 [(.var 0), (.int .i64 (-1000000000000000000)), (.int .i64 1000000000000000000)] (some (.not (.not (.var 3)))) 1,
    .call 0 [(.var 1), (.int .i64 (-1000000000000000000)), (.int .i64 1000000000000000000)] (some (.not (.ite (.not (.var 3)) (.bool true) (.not (.var 4))))) 1]
  (.ite (.ite (.ite (.not (.var 3)) (.bool true) (.not (.var 4))) (.bool true) (.not (.var 5)))
  (.ret [(.int .i64 0), (.int .i64 0), (.int .i64 0), (.bool false)])
  (.evs [.call 1 [(.var 0), (.var 1), (.var 2)] none 4]
   (.ret [(.var 6), (.var 7), (.var 8), (.var 9)]))))
def Fs_sFracMake : List Fun1 := [G_l6In, G_l2Low]
def F_sFracMake : Fun1 := ofTree Fs_sFracMake tr_sFracMake
def G_sFracMake : Fun1 := ⟨fun _ => True, fun ins => fr4 (makeI (i0 ins 0) (i0 ins 1) (i0 ins 2))⟩
theorem as_sFracMake (ins : List Value) (ht : TypedL [.int .i64, .int .i64, .int .i64] ins) (hp : G_sFracMake.pre ins) : F_sFracMake.pre ins ∧ F_sFracMake.out ins = G_sFracMake.out ins := by
  obtain ⟨a, b, c, rfl, wa, wb, wc⟩ := ints3 ht
  have hlow : inRg c 1 most = true → inRg a (-most) most = true → inRg b (-most) most = true → lowOk a b c := by
    intro h1 h2 h3
    simp only [inRg, Bool.and_eq_true, decide_eq_true_eq] at h1 h2 h3
    unfold most at h1 h2 h3
    unfold lowOk
    omega
  obtain ⟨x, y, z, t, hx⟩ := fr4_split (lowI a b c)
  simp only [F_sFracMake, G_sFracMake, tr_sFracMake, Fs_sFracMake, G_l6In, G_l2Low, makeI, ofTree, okT, okE, evalT, evalE, evsIn, ev, callF, preF, hasF, needs, i0, b0, toI_int, toB_bool, List.getD_cons_zero, List.getD_cons_succ, List.cons_append, List.nil_append, List.replicate, if_true, if_false, Bool.false_eq_true, and_true, true_and, implies_true, forall_const, false_implies, cmpI, Bool.not_true, Bool.not_false, Bool.true_and, Bool.false_and, Bool.and_true, Bool.and_false, reduceIte, List.append_nil, reduceCtorEq]
  have r1 : inRg c 1 1000000000000000000 = inRg c 1 most := rfl
  have r2 : ∀ z, inRg z (-1000000000000000000) 1000000000000000000 = inRg z (-most) most := fun _ => rfl
  simp only [r1, r2]
  cases h1 : inRg c 1 most
  · simp [h1, fr4, zq]
  · cases h2 : inRg a (-most) most
    · simp [h1, h2, fr4, zq]
    · cases h3 : inRg b (-most) most
      · simp [h1, h2, h3, fr4, zq]
      · simp [h1, h2, h3, hx, hlow h1 h2 h3]
def A_sFracMake : AF := aAny 4
theorem aok_sFracMake {cb : CodeB} : AOK cb G_sFracMake A_sFracMake := aAny_ok (fun _ => trivial) (fun ins => by rfl)

def tr_direction : Tr :=
  (.evs [.call 0 [(.var 0), (.int .i64 (-100)), (.int .i64 100)] none 1,
    .call 0 [(.var 1), (.int .i64 (-100)), (.int .i64 100)] (some (.not (.not (.var 2)))) 1]
  (.ite (.ite (.ite (.not (.var 2)) (.bool true) (.not (.var 3))) (.bool true) (.ite (.cmp .eql (.var 0) (.int .i64 0)) (.cmp .eql (.var 1) (.int .i64 0)) (.bool false)))
  (.ret [(.int .i64 0), (.int .i64 0), (.int .i64 0), (.int .i64 0), (.int .i64 0), (.int .i64 0), (.bool false)])
  (.evs [.call 1 [(.ar .sub .i64 (.ar .mul .i64 (.var 0) (.var 0)) (.ar .mul .i64 (.var 1) (.var 1))), (.int .i64 0), (.ar .add .i64 (.ar .mul .i64 (.var 0) (.var 0)) (.ar .mul .i64 (.var 1) (.var 1)))] none 4]
   (.evs [.call 1 [(.ar .mul .i64 (.ar .mul .i64 (.int .i64 2) (.var 0)) (.var 1)), (.int .i64 0), (.ar .add .i64 (.ar .mul .i64 (.var 0) (.var 0)) (.ar .mul .i64 (.var 1) (.var 1)))] none 4]
   (.ret [(.var 4), (.var 5), (.var 6), (.var 8), (.var 9), (.var 10), (.bool true)])))))
def Fs_direction : List Fun1 := [G_within, G_lowest]
def F_direction : Fun1 := ofTree Fs_direction tr_direction
def G_direction : Fun1 := ⟨fun _ => True, fun ins => dirV (i0 ins 0) (i0 ins 1)⟩
theorem as_direction (ins : List Value) (ht : TypedL [.int .i64, .int .i64] ins) (hp : G_direction.pre ins) : F_direction.pre ins ∧ F_direction.out ins = G_direction.out ins := by
  obtain ⟨p, q, rfl, wp, wq⟩ := ints2 ht
  obtain ⟨x1, y1, z1, t1, hx1, hx1'⟩ := fr4_fr3 (lowI (p * p - q * q) 0 (p * p + q * q))
  obtain ⟨x2, y2, z2, t2, hx2, hx2'⟩ := fr4_fr3 (lowI (2 * p * q) 0 (p * p + q * q))
  simp only [F_direction, G_direction, tr_direction, Fs_direction, G_within, G_lowest, arI, ofTree, okT, okE, evalT, evalE, evsIn, ev, callF, preF, hasF, needs, i0, b0, toI_int, toB_bool, List.getD_cons_zero, List.getD_cons_succ, List.cons_append, List.nil_append, List.replicate, if_true, if_false, Bool.false_eq_true, and_true, true_and, implies_true, forall_const, false_implies, cmpI, Bool.not_true, Bool.not_false, Bool.true_and, Bool.false_and, Bool.and_true, Bool.and_false, reduceIte, List.append_nil, reduceCtorEq]
  cases h1 : inRg p (-100) 100
  · simp [h1, dirV, dirOk, dirC, dirS, fr3, zq]
  · cases h2 : inRg q (-100) 100
    · simp [h1, h2, dirV, dirOk, dirC, dirS, fr3, zq]
    · by_cases h3 : (p == 0 && q == 0) = true
      · have e3 := h3
        simp only [Bool.and_eq_true, beq_iff_eq] at e3
        obtain ⟨rfl, rfl⟩ := e3
        simp [h1, dirV, dirOk, dirC, dirS, fr3, zq]
      · have hd : dirOk p q = true := by
          simp only [dirOk, h1, h2, Bool.true_and]
          cases hb : (p == 0 && q == 0) with
          | true => exact absurd hb h3
          | false => rfl
        obtain ⟨l1, l2, w1, w2, w3, w4, w5, w6, _⟩ := dir_facts hd
        have h3' : (p == 0 && q == 0) = false := by simpa using h3
        have h4 : ¬(p = 0 ∧ q = 0) := by rintro ⟨rfl, rfl⟩; exact h3 rfl
        simp only [dirV, dirC, dirS, hd, if_true, hx1', hx2', w1, w2, w3, w4, w5, w6, hx1, hx2, h1, h2, ofTree, okT, okE, evalT, evalE, evsIn, ev, callF, preF, hasF, needs, i0, b0, toI_int, toB_bool, List.getD_cons_zero, List.getD_cons_succ, List.cons_append, List.nil_append, List.replicate, if_true, if_false, Bool.false_eq_true, and_true, true_and, implies_true, forall_const, false_implies, cmpI, Bool.not_true, Bool.not_false, Bool.true_and, Bool.false_and, Bool.and_true, Bool.and_false, reduceIte, List.append_nil, reduceCtorEq]
        clear hd w1 w2 w3 w4 w5 w6 hx1 hx2 hx1' hx2' h1 h2 ht hp
        generalize p * p - q * q = A at *
        generalize 2 * p * q = B at *
        generalize p * p + q * q = C at *
        by_cases h5 : p = 0
        · by_cases h6 : q = 0
          · exact absurd ⟨h5, h6⟩ h4
          · simp [h5, h6, l1, l2]
        · simp [h5, l1, l2]

def tr_l5Direction : Tr :=
  (.evs [.call 0 [(.var 0), (.int .i64 (-100)), (.int .i64 100)] none 1,
    .call 0 [(.var 1), (.int .i64 (-100)), (.int .i64 100)] (some (.not (.not (.var 2)))) 1]
  (.ite (.ite (.ite (.not (.var 2)) (.bool true) (.not (.var 3))) (.bool true) (.ite (.cmp .eql (.var 0) (.int .i64 0)) (.cmp .eql (.var 1) (.int .i64 0)) (.bool false)))
  (.ret [(.int .i64 0), (.int .i64 0), (.int .i64 0), (.int .i64 0), (.int .i64 0), (.int .i64 0), (.bool false)])
  (.evs [.call 1 [(.ar .sub .i64 (.ar .mul .i64 (.var 0) (.var 0)) (.ar .mul .i64 (.var 1) (.var 1))), (.int .i64 0), (.ar .add .i64 (.ar .mul .i64 (.var 0) (.var 0)) (.ar .mul .i64 (.var 1) (.var 1)))] none 4]
   (.evs [.call 1 [(.ar .mul .i64 (.ar .mul .i64 (.int .i64 2) (.var 0)) (.var 1)), (.int .i64 0), (.ar .add .i64 (.ar .mul .i64 (.var 0) (.var 0)) (.ar .mul .i64 (.var 1) (.var 1)))] none 4]
   (.ret [(.var 4), (.var 5), (.var 6), (.var 8), (.var 9), (.var 10), (.bool true)])))))
def Fs_l5Direction : List Fun1 := [G_l6In, G_sFracMake]
def F_l5Direction : Fun1 := ofTree Fs_l5Direction tr_l5Direction
def G_l5Direction : Fun1 := ⟨fun _ => True, fun ins => dirV (i0 ins 0) (i0 ins 1)⟩
theorem as_l5Direction (ins : List Value) (ht : TypedL [.int .i64, .int .i64] ins) (hp : G_l5Direction.pre ins) : F_l5Direction.pre ins ∧ F_l5Direction.out ins = G_l5Direction.out ins := by
  obtain ⟨p, q, rfl, wp, wq⟩ := ints2 ht
  obtain ⟨x1, y1, z1, t1, hx1, hx1'⟩ := fr4_fr3 (lowI (p * p - q * q) 0 (p * p + q * q))
  obtain ⟨x2, y2, z2, t2, hx2, hx2'⟩ := fr4_fr3 (lowI (2 * p * q) 0 (p * p + q * q))
  simp only [F_l5Direction, G_l5Direction, tr_l5Direction, Fs_l5Direction, G_l6In, G_sFracMake, arI, ofTree, okT, okE, evalT, evalE, evsIn, ev, callF, preF, hasF, needs, i0, b0, toI_int, toB_bool, List.getD_cons_zero, List.getD_cons_succ, List.cons_append, List.nil_append, List.replicate, if_true, if_false, Bool.false_eq_true, and_true, true_and, implies_true, forall_const, false_implies, cmpI, Bool.not_true, Bool.not_false, Bool.true_and, Bool.false_and, Bool.and_true, Bool.and_false, reduceIte, List.append_nil, reduceCtorEq]
  cases h1 : inRg p (-100) 100
  · simp [h1, dirV, dirOk, dirC, dirS, fr3, zq]
  · cases h2 : inRg q (-100) 100
    · simp [h1, h2, dirV, dirOk, dirC, dirS, fr3, zq]
    · by_cases h3 : (p == 0 && q == 0) = true
      · have e3 := h3
        simp only [Bool.and_eq_true, beq_iff_eq] at e3
        obtain ⟨rfl, rfl⟩ := e3
        simp [h1, dirV, dirOk, dirC, dirS, fr3, zq]
      · have hd : dirOk p q = true := by
          simp only [dirOk, h1, h2, Bool.true_and]
          cases hb : (p == 0 && q == 0) with
          | true => exact absurd hb h3
          | false => rfl
        obtain ⟨l1, l2, w1, w2, w3, w4, w5, w6, k1, k2, k3, k4, k5, k6⟩ := dir_facts hd
        have h3' : (p == 0 && q == 0) = false := by simpa using h3
        have h4 : ¬(p = 0 ∧ q = 0) := by rintro ⟨rfl, rfl⟩; exact h3 rfl
        have m1 := make_small k3 k4 k1 k2
        have m2 := make_small k5 k6 k1 k2
        simp only [m1, m2, dirV, dirC, dirS, hd, if_true, hx1', hx2', w1, w2, w3, w4, w5, w6, hx1, hx2, h1, h2, ofTree, okT, okE, evalT, evalE, evsIn, ev, callF, preF, hasF, needs, i0, b0, toI_int, toB_bool, List.getD_cons_zero, List.getD_cons_succ, List.cons_append, List.nil_append, List.replicate, if_true, if_false, Bool.false_eq_true, and_true, true_and, implies_true, forall_const, false_implies, cmpI, Bool.not_true, Bool.not_false, Bool.true_and, Bool.false_and, Bool.and_true, Bool.and_false, reduceIte, List.append_nil, reduceCtorEq]
        clear m1 m2 k1 k2 k3 k4 k5 k6 hd w1 w2 w3 w4 w5 w6 hx1 hx2 hx1' hx2' h1 h2 ht hp
        generalize p * p - q * q = A at *
        generalize 2 * p * q = B at *
        generalize p * p + q * q = C at *
        by_cases h5 : p = 0
        · by_cases h6 : q = 0
          · exact absurd ⟨h5, h6⟩ h4
          · simp [h5, h6, l1, l2]
        · simp [h5, l1, l2]
def A_l5Direction : AF := aAny 7
theorem aok_l5Direction {cb : CodeB} : AOK cb G_l5Direction A_l5Direction := aAny_ok (fun _ => trivial) (fun ins => by rfl)

def tr_pick : Tr :=
  (.ite (.ite (.cmp .lss (.var 0) (.int .i64 1)) (.bool true) (.cmp .eql (.len (.var 1)) (.int .i64 0)))
  (.ret [(.int .i64 0), (.var 1), (.ar .add .i64 (.var 2) (.int .i64 1))])
  (.ite (.cmp .lss (.ar .sub .i64 (.ar .add .i64 (.var 2) (.int .i64 1)) (.int .i64 1)) (.len (.var 1)))
   (.evs [.need [(.inb (.var 3) (.ar .sub .i64 (.ar .add .i64 (.var 2) (.int .i64 1)) (.int .i64 1)) 1)],
      .need [(.cmp .neq (.var 0) (.int .i64 0))]]
    (.ret [(.ar .rem .i64 (.conv .i64 (.sel (.var 3) (.ar .sub .i64 (.ar .add .i64 (.var 2) (.int .i64 1)) (.int .i64 1)) 1 0)) (.var 0)), (.var 1), (.ar .add .i64 (.var 2) (.int .i64 1))]))
   (.evs [.need [(.cmp .neq (.len (.var 1)) (.int .i64 0)), (.inb (.var 3) (.ar .rem .i64 (.ar .sub .i64 (.ar .add .i64 (.var 2) (.int .i64 1)) (.int .i64 1)) (.len (.var 1))) 1), (.cmp .neq (.len (.var 1)) (.int .i64 0)), (.inb (.var 3) (.ar .rem .i64 (.ar .add .i64 (.ar .mul .i64 (.ar .sub .i64 (.ar .add .i64 (.var 2) (.int .i64 1)) (.int .i64 1)) (.int .i64 7)) (.int .i64 3)) (.len (.var 1))) 1), (.cmp .neq (.len (.var 1)) (.int .i64 0))],
      .need [(.cmp .neq (.len (.var 1)) (.int .i64 0)), (.inb (.var 3) (.ar .rem .i64 (.ar .sub .i64 (.ar .add .i64 (.var 2) (.int .i64 1)) (.int .i64 1)) (.len (.var 1))) 1), (.cmp .neq (.len (.var 1)) (.int .i64 0)), (.inb (.var 3) (.ar .rem .i64 (.ar .add .i64 (.ar .mul .i64 (.ar .sub .i64 (.ar .add .i64 (.var 2) (.int .i64 1)) (.int .i64 1)) (.int .i64 7)) (.int .i64 3)) (.len (.var 1))) 1), (.cmp .neq (.len (.var 1)) (.int .i64 0))]]
    (.evs [.need [(.bool true)]]
    (.evs [.need [(.cmp .neq (.var 0) (.int .i64 0))]]
    (.ret [(.ar .rem .i64 (.ar .xor .i64 (.ar .add .i64 (.ar .add .i64 (.ar .add .i64 (.ar .mul .i64 (.conv .i64 (.sel (.var 3) (.ar .rem .i64 (.ar .sub .i64 (.ar .add .i64 (.var 2) (.int .i64 1)) (.int .i64 1)) (.len (.var 1))) 1 0)) (.int .i64 131)) (.ar .mul .i64 (.conv .i64 (.sel (.var 3) (.ar .rem .i64 (.ar .add .i64 (.ar .mul .i64 (.ar .sub .i64 (.ar .add .i64 (.var 2) (.int .i64 1)) (.int .i64 1)) (.int .i64 7)) (.int .i64 3)) (.len (.var 1))) 1 0)) (.int .i64 1117))) (.ar .mul .i64 (.ar .sub .i64 (.ar .add .i64 (.var 2) (.int .i64 1)) (.int .i64 1)) (.int .i64 29))) (.ar .mul .i64 (.ar .quo .i64 (.ar .sub .i64 (.ar .add .i64 (.var 2) (.int .i64 1)) (.int .i64 1)) (.len (.var 1))) (.int .i64 53))) (.ar .quo .i64 (.ar .add .i64 (.ar .add .i64 (.ar .add .i64 (.ar .mul .i64 (.conv .i64 (.sel (.var 3) (.ar .rem .i64 (.ar .sub .i64 (.ar .add .i64 (.var 2) (.int .i64 1)) (.int .i64 1)) (.len (.var 1))) 1 0)) (.int .i64 131)) (.ar .mul .i64 (.conv .i64 (.sel (.var 3) (.ar .rem .i64 (.ar .add .i64 (.ar .mul .i64 (.ar .sub .i64 (.ar .add .i64 (.var 2) (.int .i64 1)) (.int .i64 1)) (.int .i64 7)) (.int .i64 3)) (.len (.var 1))) 1 0)) (.int .i64 1117))) (.ar .mul .i64 (.ar .sub .i64 (.ar .add .i64 (.var 2) (.int .i64 1)) (.int .i64 1)) (.int .i64 29))) (.ar .mul .i64 (.ar .quo .i64 (.ar .sub .i64 (.ar .add .i64 (.var 2) (.int .i64 1)) (.int .i64 1)) (.len (.var 1))) (.int .i64 53))) (.int .i64 64))) (.var 0)), (.var 1), (.ar .add .i64 (.var 2) (.int .i64 1))]))))))
def Fs_pick : List Fun1 := []
def F_pick : Fun1 := ofTree Fs_pick tr_pick
theorem pick_tree {arr : Array Value} {b : Value} {n p L : Int} (hL : lenV b = L) (hs : L = (arr.size : Int)) (hL2 : L ≤ 9223372036854775807) (hn : I64 n) (hp : 0 ≤ p ∧ p ≤ 1000000000) (hb : ∀ i : Nat, 0 ≤ toI (arr.getD i undef) ∧ toI (arr.getD i undef) ≤ 255) :
    okT [] tr_pick [.int .i64 n, b, .int .i64 p, .agg arr] ∧ ∃ x, evalT [] tr_pick [.int .i64 n, b, .int .i64 p, .agg arr] = [.int .i64 x, b, .int .i64 (p + 1)] ∧ 0 ≤ x ∧ x ≤ max 0 (n - 1) := by
  have w1 : IntKind.i64.wrap (p + 1) = p + 1 := wrap_in (by omega)
  have w2 : IntKind.i64.wrap (p + 1 - 1) = p := by rw [show p + 1 - 1 = p by omega]; exact wrap_in (by omega)
  have wb : ∀ i : Nat, IntKind.i64.wrap (toI (arr.getD i undef)) = toI (arr.getD i undef) := fun i => wrap_in (by have := hb i; omega)
  unfold tr_pick
  simp only [okT, evalT, okE, evalE, needs, evsIn, ev, cmpI, arI, toI_int, List.getD_cons_zero, List.getD_cons_succ, w1, w2, hL, toB_bool, Value.cells, Nat.mul_one, Nat.add_zero, wb]
  by_cases c1 : n < 1
  · simp only [c1, decide_true, if_true, toB_bool]
    exact ⟨trivial, 0, rfl, by omega, by omega⟩
  by_cases c2 : L = 0
  · simp only [c1, c2, decide_false, Bool.false_eq_true, if_false, toB_bool, beq_self_eq_true, if_true]
    exact ⟨trivial, 0, rfl, by omega, by omega⟩
  have c3 : (L == 0) = false := by simp [c2]
  simp only [c1, c3, decide_false, Bool.false_eq_true, if_false, toB_bool]
  have n0 : (n != 0) = true := by simp; omega
  by_cases c4 : p < L
  · simp only [c4, decide_true, if_true]
    have h1 := hb p.toNat
    obtain ⟨r1, r2⟩ := tmod_rng (n := n) h1.1 (by omega)
    refine ⟨⟨⟨⟨by rw [Value.bool.injEq, decide_eq_true_eq]; omega, trivial⟩, ⟨by rw [n0], trivial⟩, trivial⟩, trivial⟩, _, rfl, r1, by omega⟩
  · simp only [c4, decide_false, Bool.false_eq_true, if_false]
    have w3 : IntKind.i64.wrap (p * 7) = p * 7 := wrap_in (by omega)
    have w4 : IntKind.i64.wrap (p * 7 + 3) = p * 7 + 3 := wrap_in (by omega)
    obtain ⟨a1, a2⟩ := tmod_rng (x := p) (n := L) (by omega) (by omega)
    obtain ⟨b1, b2⟩ := tmod_rng (x := p * 7 + 3) (n := L) (by omega) (by omega)
    obtain ⟨d1, d2⟩ := tdiv_range (x := p) (n := L) (by omega) (by omega)
    simp only [w3, w4]
    have y1 := hb (p.tmod L).toNat
    have y2 := hb ((p * 7 + 3).tmod L).toNat
    generalize toI (arr.getD (p.tmod L).toNat undef) = u at y1 ⊢
    generalize toI (arr.getD ((p * 7 + 3).tmod L).toNat undef) = v at y2 ⊢
    generalize p.tdiv L = z at d1 d2 ⊢
    rw [wrap_in (z := u * 131) (by omega), wrap_in (z := v * 1117) (by omega), wrap_in (z := p * 29) (by omega), wrap_in (z := z) (by omega), wrap_in (z := z * 53) (by omega),
      wrap_in (z := u * 131 + v * 1117) (by omega), wrap_in (z := u * 131 + v * 1117 + p * 29) (by omega), wrap_in (z := u * 131 + v * 1117 + p * 29 + z * 53) (by omega)]
    have hx : 0 ≤ u * 131 + v * 1117 + p * 29 + z * 53 ∧ u * 131 + v * 1117 + p * 29 + z * 53 ≤ 4611686018427387903 := by omega
    generalize u * 131 + v * 1117 + p * 29 + z * 53 = X at hx ⊢
    obtain ⟨t1, t2⟩ := tdiv_range (x := X) (n := 64) hx.1 (by omega)
    rw [wrap_in (z := X.tdiv 64) (by omega)]
    have hxr := xor_nonneg hx (y := X.tdiv 64) (by omega)
    obtain ⟨r1, r2⟩ := tmod_rng (n := n) hxr.1 (by omega)
    have L0 : (L != 0) = true := by simp [c2]
    refine ⟨⟨⟨⟨by rw [L0], by rw [Value.bool.injEq, decide_eq_true_eq]; omega, by rw [L0], by rw [Value.bool.injEq, decide_eq_true_eq]; omega, by rw [L0], trivial⟩, ⟨by rw [L0], by rw [Value.bool.injEq, decide_eq_true_eq]; omega, by rw [L0], by rw [Value.bool.injEq, decide_eq_true_eq]; omega, by rw [L0], trivial⟩, trivial⟩, ⟨⟨trivial, trivial⟩, trivial⟩, ⟨⟨by rw [n0], trivial⟩, trivial⟩, trivial⟩, _, rfl, r1, by omega⟩
def G_pick (cb : CodeB) : Fun1 := ⟨fun ins => goodSl cb (ins.getD 1 undef) ∧ (∃ n, ins.getD 0 undef = .int .i64 n ∧ I64 n) ∧ ∃ p, ins.getD 2 undef = .int .i64 p ∧ 0 ≤ p ∧ p ≤ 1000000000, fun ins => F_pick.out [ins.getD 0 undef, ins.getD 1 undef, ins.getD 2 undef, rowU cb (ins.getD 1 undef)]⟩
theorem pick_facts {cb : CodeB} (hk : CodeOk cb) {n p : Int} {b : Value} (hb : goodSl cb b) (hn : I64 n) (hp : 0 ≤ p ∧ p ≤ 1000000000) :
    F_pick.pre [.int .i64 n, b, .int .i64 p, rowU cb b] ∧ ∃ x, F_pick.out [.int .i64 n, b, .int .i64 p, rowU cb b] = [.int .i64 x, b, .int .i64 (p + 1)] ∧ 0 ≤ x ∧ x ≤ max 0 (n - 1) := by
  obtain ⟨a, len, cap, arr, hv, hr, hsz, hlen, harr⟩ := goodSl_row hk hb
  rw [hr]
  exact pick_tree (L := len) (by rw [hv]; rfl) (by omega) (by omega) hn hp (row_byte harr)
theorem ghost_pick {cb : CodeB} (hk : CodeOk cb) (n b p : Value) (ht : TypedL [.int .i64, .sl, .int .i64] [n, b, p]) (h : (G_pick cb).pre [n, b, p]) : goodSl cb b ∧ F_pick.pre [n, b, p, rowU cb b] ∧ F_pick.out [n, b, p, rowU cb b] = (G_pick cb).out [n, b, p] := by
  obtain ⟨h1, ⟨n, hn, hn'⟩, p, hp, hp'⟩ := h
  have hn : _ = Value.int .i64 n := hn
  have hp : _ = Value.int .i64 p := hp
  simp only [List.getD_cons_zero, List.getD_cons_succ] at hn hp h1
  subst hn hp
  exact ⟨h1, (pick_facts hk h1 hn' hp').1, rfl⟩
theorem aok_pick {cb : CodeB} (hk : CodeOk cb) : AOK cb (G_pick cb) aPick := by
  intro I O h ins hi
  match I, ins, hi, h with
  | [.itv lo hi', .good, .itv a b], [n, s, p], ⟨⟨n', hn, n1, n2⟩, hs, ⟨p', hp, p1, p2⟩, _⟩, h =>
    simp only [aPick] at h
    split at h
    · rename_i hc
      cases h
      simp only [Bool.and_eq_true, decide_eq_true_eq] at hc
      subst hn hp
      have hn64 : I64 n' := by unfold I64; omega
      have hpp : 0 ≤ p' ∧ p' ≤ 1000000000 := by omega
      obtain ⟨q1, x, q2, q3, q4⟩ := pick_facts hk hs hn64 hpp
      refine ⟨⟨hs, ⟨n', rfl, hn64⟩, p', rfl, hpp⟩, ?_⟩
      have e : (G_pick cb).out [.int .i64 n', s, .int .i64 p'] = [.int .i64 x, s, .int .i64 (p' + 1)] := q2
      rw [e]
      exact ⟨⟨x, rfl, q3, by omega⟩, hs, ⟨p' + 1, rfl, by omega, by omega⟩, trivial⟩
    · cases h

abbrev F_pickC := G_pick
abbrev A_pickC := aPick
theorem aok_pickC {cb : CodeB} (hk : CodeOk cb) : AOK cb (G_pick cb) aPick := aok_pick hk

abbrev F_openC := G_open
abbrev A_openC := aOpen
theorem aok_openC {cb : CodeB} (_ : CodeOk cb) : AOK cb (G_open cb) aOpen := aok_open

def SP_Split : Spec := SP_split

def SP_Join : Spec := SP_join

def SP_plainNumber : Spec := SP_num num

def SP_l6Dec : Spec := SP_itoa

def tr_l7Cut : Tr :=
  (.evs [.app (.val (.agg #[])) 1 (.cells [])]
  (.lp 0 [(.int .i64 0), (.int .i64 0), (.var 2), (.val (.agg #[]))] [.int .i64, .int .i64, .sl, .rowC [.str]]
  (.ite (.cmp .leq (.var 4) (.len (.var 0)))
   (.evs [.need [(.ite (.not (.cmp .eql (.var 4) (.len (.var 0)))) (.cmp .leq (.int .i64 0) (.var 4)) (.bool true)), (.ite (.not (.cmp .eql (.var 4) (.len (.var 0)))) (.cmp .lss (.var 4) (.len (.var 0))) (.bool true))]]
    (.ite (.ite (.cmp .eql (.var 4) (.len (.var 0))) (.bool true) (.cmp .eql (.sidx (.var 0) (.var 4)) (.var 1)))
    (.evs [.need [(.cmp .leq (.int .i64 0) (.var 5)), (.cmp .leq (.var 5) (.var 4)), (.cmp .leq (.var 4) (.len (.var 0)))],
       .app (.var 7) 1 (.cells [(.ssub (.var 0) (.var 5) (.var 4))])]
     (.next 0 [(.ar .add .i64 (.var 4) (.int .i64 1)), (.ar .add .i64 (.var 4) (.int .i64 1)), (.var 8), (.var 9)]))
    (.next 0 [(.ar .add .i64 (.var 4) (.int .i64 1)), (.var 5), (.var 6), (.var 7)])))
   (.ret [(.var 6), (.var 7)]))))
def Fs_l7Cut : List Fun1 := []
def SP_l7Cut : Spec := SP_cut
theorem cut_last {c : UInt8} {s : List UInt8} {fr i : Nat} (h : i = s.length) : cutGo c ((s.drop fr).take (i - fr)) (s.drop i) = [(s.drop fr).take (i - fr)] := by
  rw [show s.drop i = [] from List.drop_eq_nil_of_le (by omega)]; rfl
theorem cut_hit {c : UInt8} {s : List UInt8} {fr i : Nat} (h : s[i]? = some c) : cutGo c ((s.drop fr).take (i - fr)) (s.drop i) = (s.drop fr).take (i - fr) :: cutGo c ((s.drop (i + 1)).take (i + 1 - (i + 1))) (s.drop (i + 1)) := by
  obtain ⟨hi, he⟩ := List.getElem?_eq_some_iff.1 h
  rw [List.drop_eq_getElem_cons hi, he, cutGo, if_pos rfl, Nat.sub_self, List.take_zero]
theorem cut_skip {c x : UInt8} {s : List UInt8} {fr i : Nat} (h : s[i]? = some x) (hx : x ≠ c) (hf : fr ≤ i) : cutGo c ((s.drop fr).take (i - fr)) (s.drop i) = cutGo c ((s.drop fr).take (i + 1 - fr)) (s.drop (i + 1)) := by
  obtain ⟨hi, he⟩ := List.getElem?_eq_some_iff.1 h
  rw [List.drop_eq_getElem_cons hi, he, cutGo, if_neg hx]
  congr 1
  rw [show i + 1 - fr = (i - fr) + 1 by omega, List.take_add_one]
  congr 1
  rw [List.getElem?_drop, show fr + (i - fr) = i by omega, h]
  rfl
theorem sat_l7Cut (P : Program) (ins : List Value) (K : List Value → Prop) (ht : TypedL [.str, .int .u8] ins) (h : SP_l7Cut ins K) : sat P (specsOf Fs_l7Cut) tr_l7Cut ins [] K := by
  obtain ⟨s, c, rfl, hs, hK⟩ := h
  refine evs_step (app_empty (by omega) fun a2 cap2 => evs_nil ?_)
  refine ⟨fun vs => ∃ (i fr : Nat) (a : Option Addr) (cap : Nat) (done : List (List UInt8)), vs = [.int .i64 i, .int .i64 fr, .slice a done.length cap, rowS done] ∧ i ≤ s.length + 1 ∧ fr ≤ i ∧
      (i ≤ s.length → cut c s = done ++ cutGo c ((s.drop fr).take (i - fr)) (s.drop i)) ∧ (i = s.length + 1 → cut c s = done) ∧ done.length ≤ i, fun vs => s.length + 1 - (toI (vs.getD 0 undef)).toNat, ?_, ?_⟩
  · exact ⟨0, 0, a2, cap2, [], rfl, by omega, by omega, fun _ => by simp [cut], fun h => by omega, by simp⟩
  · rintro vs hty ⟨i, fr, a, cap, done, rfl, hi, hfr, h1, h2, hd⟩
    have hlen : lenV (bv s) = (s.length : Int) := len_bv s
    refine ⟨fun hc => ?_, fun hc => ?_⟩
    · have hc : Value.bool (decide ((i : Int) ≤ lenV (bv s))) = .bool true := hc
      rw [hlen] at hc
      have hle : i ≤ s.length := by have := bt_of hc; omega
      have hcut := h1 hle
      have hw : IntKind.i64.wrap ((i : Int) + 1) = ((i + 1 : Nat) : Int) := by rw [wrap_in (by omega)]; omega
      refine evs_step (need_step (all_cons (need_if fun _ => ?_) (all_cons (need_if fun hg => ?_) all_nil)) (evs_nil ?_))
      · exact bt (Int.natCast_nonneg i)
      · have hg : (!((i : Int) == lenV (bv s))) = true := hg
        rw [hlen] at hg
        have : ¬ (i : Int) = s.length := by simpa using hg
        show Value.bool (decide ((i : Int) < lenV (bv s))) = _
        rw [hlen]
        exact bt (by omega)
      · have hbr : ∀ b, (if (((i : Int) == lenV (bv s)) : Bool) = true then Value.bool true else Value.bool (byteV (strV (bv s)) i == (c.toNat : Int))) = .bool b →
            (b = true ∧ (i = s.length ∨ s[i]? = some c)) ∨ (b = false ∧ ∃ x, s[i]? = some x ∧ x ≠ c) := by
          intro b hb
          rw [hlen] at hb
          by_cases he : i = s.length
          · rw [if_pos (by simp [he])] at hb
            exact .inl ⟨(Value.bool.inj hb).symm, .inl he⟩
          · rw [if_neg (by simp; omega)] at hb
            have hil : i < s.length := by omega
            rw [byte_bv (List.getElem?_eq_getElem hil)] at hb
            have hb := Value.bool.inj hb
            by_cases hx : s[i] = c
            · refine .inl ⟨by rw [← hb, hx]; simp, .inr (by rw [List.getElem?_eq_getElem hil, hx])⟩
            · refine .inr ⟨?_, s[i], List.getElem?_eq_getElem hil, hx⟩
              rw [← hb, beq_eq_false_iff_ne]
              intro e
              exact hx (UInt8.toNat_inj.1 (by omega))
        refine ⟨fun hx => ?_, fun hx => ?_⟩
        · have hyes : i = s.length ∨ s[i]? = some c := by
            rcases hbr true hx with h | h
            · exact h.2
            · cases h.1
          have hdl : done.length + 1 ≤ 2097154 := by omega
          refine evs_step (need_step (all_cons (bt (Int.natCast_nonneg fr)) (all_cons ?_ (all_cons hc all_nil))) (app_step (xs := done.map bv) (ys := [bv ((s.drop fr).take (i - fr))]) rfl ?_ (by simp; omega) fun a3 len3 cap3 _ hl => evs_nil ?_))
          · show Value.bool (decide ((fr : Int) ≤ (i : Int))) = _
            exact bt (by omega)
          · show [Value.string ((strV (bv s)).extract ((fr : Int)).toNat ((i : Int)).toNat)] = _
            rw [Int.toNat_natCast, Int.toNat_natCast, extract_bv]
          · have hl3 : len3 = (done ++ [(s.drop fr).take (i - fr)]).length := by simp at hl ⊢; omega
            subst hl3
            show (∃ _, _) ∧ _
            rw [show Value.agg (done.map bv ++ [bv ((s.drop fr).take (i - fr))]).toArray = rowS (done ++ [(s.drop fr).take (i - fr)]) from rowS_snoc _ _]
            refine ⟨⟨i + 1, i + 1, a3, cap3, done ++ [(s.drop fr).take (i - fr)], ?_, by omega, by omega, fun hle2 => ?_, fun he => ?_, by simp; omega⟩, ?_⟩
            · show [Value.int .i64 (IntKind.i64.wrap ((i : Int) + 1)), .int .i64 (IntKind.i64.wrap ((i : Int) + 1)), .slice a3 (done ++ [(s.drop fr).take (i - fr)]).length cap3, rowS (done ++ [(s.drop fr).take (i - fr)])] = _
              rw [hw]
            · rw [hcut]
              rcases hyes with h | h
              · omega
              · rw [cut_hit h]; simp
            · rw [hcut, cut_last (by omega)]
            · show s.length + 1 - (IntKind.i64.wrap ((i : Int) + 1)).toNat < s.length + 1 - ((i : Int)).toNat
              rw [hw]; omega
        · obtain ⟨x, hxs, hxc⟩ : ∃ x, s[i]? = some x ∧ x ≠ c := by
            rcases hbr false hx with h | h
            · cases h.1
            · exact h.2
          have hil := (List.getElem?_eq_some_iff.1 hxs).1
          refine ⟨⟨i + 1, fr, a, cap, done, ?_, by omega, by omega, fun hle2 => ?_, fun he => by omega, by omega⟩, ?_⟩
          · show [Value.int .i64 (IntKind.i64.wrap ((i : Int) + 1)), .int .i64 fr, .slice a done.length cap, rowS done] = _
            rw [hw]
          · rw [hcut, cut_skip hxs hxc hfr]
          · show s.length + 1 - (IntKind.i64.wrap ((i : Int) + 1)).toNat < s.length + 1 - ((i : Int)).toNat
            rw [hw]; omega
    · have hc : Value.bool (decide ((i : Int) ≤ lenV (bv s))) = .bool false := hc
      rw [hlen] at hc
      have hn := bf_of hc
      have hcut := h2 (by omega)
      rw [hcut] at hK
      exact hK a _ cap rfl

def tr_l7Number : Tr :=
  (.evs [.call 0 [(.len (.var 0)), (.int .i64 1), (.int .i64 4)] none 1]
  (.ite (.not (.var 1))
  (.ret [(.int .i64 0), (.bool false)])
  (.lp 0 [(.int .i64 0), (.int .i64 1), (.int .i64 0)] [.int .i64, .int .i64, .int .i64]
   (.ite (.cmp .lss (.var 2) (.len (.var 0)))
    (.evs [.need [(.ite (.cmp .eql (.var 2) (.int .i64 0)) (.cmp .leq (.int .i64 0) (.var 2)) (.bool true)), (.ite (.cmp .eql (.var 2) (.int .i64 0)) (.cmp .lss (.var 2) (.len (.var 0))) (.bool true))]]
     (.ite (.ite (.cmp .eql (.var 2) (.int .i64 0)) (.cmp .eql (.sidx (.var 0) (.var 2)) (.int .u8 45)) (.bool false))
     (.next 0 [(.ar .add .i64 (.var 2) (.int .i64 1)), (.int .i64 (-1)), (.var 4)])
     (.evs [.need [(.cmp .leq (.int .i64 0) (.var 2)), (.cmp .lss (.var 2) (.len (.var 0)))],
        .need [(.ite (.cmp .geq (.sidx (.var 0) (.var 2)) (.int .u8 48)) (.cmp .leq (.int .i64 0) (.var 2)) (.bool true)), (.ite (.cmp .geq (.sidx (.var 0) (.var 2)) (.int .u8 48)) (.cmp .lss (.var 2) (.len (.var 0))) (.bool true))]]
      (.ite (.ite (.cmp .geq (.sidx (.var 0) (.var 2)) (.int .u8 48)) (.cmp .leq (.sidx (.var 0) (.var 2)) (.int .u8 57)) (.bool false))
      (.evs [.need [(.cmp .leq (.int .i64 0) (.var 2)), (.cmp .lss (.var 2) (.len (.var 0)))]]
       (.next 0 [(.ar .add .i64 (.var 2) (.int .i64 1)), (.var 3), (.ar .add .i64 (.ar .mul .i64 (.int .i64 10) (.var 4)) (.conv .i64 (.ar .sub .u8 (.sidx (.var 0) (.var 2)) (.int .u8 48))))]))
      (.ret [(.int .i64 0), (.bool false)])))))
    (.evs [.call 1 [(.ar .mul .i64 (.var 3) (.var 4))] none 1]
     (.ret [(.ar .mul .i64 (.var 3) (.var 4)), (.seq (.var 5) (.var 0))]))))))
def Ss_l7Number : List Spec := [G_l6In.spec, SP_l6Dec]
def SP_l7Number : Spec := SP_num snum
/-- The reader's state behind some bytes: the sign and the number. -/
def nst : List UInt8 → Option (Int × Nat)
  | [] => some (1, 0)
  | x :: r => if x = 45 then (digGo 0 r).map fun n => (-1, n) else (digGo 0 (x :: r)).map fun n => (1, n)
theorem digGo_app (b : List UInt8) : ∀ (a : List UInt8) (acc : Nat), digGo acc (a ++ b) = (digGo acc a).bind fun u => digGo u b
  | [], acc => rfl
  | x :: r, acc => by
    simp only [List.cons_append, digGo]
    split
    · exact digGo_app b r _
    · rfl
theorem nst_step {p : List UInt8} {x : UInt8} {sg : Int} {n : Nat} (h : nst p = some (sg, n)) : nst (p ++ [x]) = if p = [] ∧ x = 45 then some (-1, 0) else if 48 ≤ x.toNat ∧ x.toNat ≤ 57 then some (sg, 10 * n + (x.toNat - 48)) else none := by
  cases p with
  | nil =>
    cases h
    by_cases hx : x = 45
    · simp [nst, hx, digGo]
    · simp only [List.nil_append, nst, hx, and_false, if_false, digGo]
      split <;> simp
  | cons y r =>
    rw [if_neg (by simp)]
    simp only [List.cons_append, nst] at h ⊢
    by_cases hy : y = 45
    · rw [if_pos hy] at h ⊢
      cases hd : digGo 0 r with
      | none => rw [hd] at h; cases h
      | some u =>
        rw [hd] at h
        cases h
        rw [digGo_app, hd]
        simp only [Option.bind_some, digGo]
        split <;> simp
    · rw [if_neg hy] at h ⊢
      cases hd : digGo 0 (y :: r) with
      | none => rw [hd] at h; cases h
      | some u =>
        rw [hd] at h
        cases h
        have e : digGo 0 (y :: (r ++ [x])) = (digGo 0 (y :: r)).bind fun u => digGo u [x] := digGo_app [x] (y :: r) 0
        rw [e, hd]
        simp only [Option.bind_some, digGo]
        split <;> simp
theorem nst_none {p q : List UInt8} (h : nst p = none) : nst (p ++ q) = none := by
  cases p with
  | nil => cases h
  | cons y r =>
    simp only [List.cons_append, nst] at h ⊢
    split at h
    · rename_i hy
      rw [if_pos hy, digGo_app]
      rw [Option.map_eq_none_iff] at h
      rw [h]; rfl
    · rename_i hy
      rw [if_neg hy]
      rw [Option.map_eq_none_iff] at h
      have e : digGo 0 (y :: (r ++ q)) = (digGo 0 (y :: r)).bind fun u => digGo u q := digGo_app q (y :: r) 0
      rw [e, h]; rfl
theorem sraw_nst {l : List UInt8} (h : l ≠ []) : sraw l = (nst l).map fun p => p.1 * (p.2 : Int) := by
  cases l with
  | nil => exact absurd rfl h
  | cons x r =>
    simp only [sraw, nst]
    split
    · cases digGo 0 r <;> simp
    · cases digGo 0 (x :: r) <;> simp
theorem nst_lt {p : List UInt8} {sg : Int} {n : Nat} (h : nst p = some (sg, n)) : (sg = 1 ∨ sg = -1) ∧ n < 10 ^ p.length := by
  cases p with
  | nil => cases h; exact ⟨.inl rfl, by simp⟩
  | cons y r =>
    simp only [nst] at h
    split at h
    · cases hd : digGo 0 r with
      | none => rw [hd] at h; cases h
      | some u =>
        rw [hd] at h
        cases h
        have := digGo_lt hd
        refine ⟨.inr rfl, ?_⟩
        rw [List.length_cons, Nat.pow_succ]
        omega
    · cases hd : digGo 0 (y :: r) with
      | none => rw [hd] at h; cases h
      | some u =>
        rw [hd] at h
        cases h
        have := digGo_lt hd
        exact ⟨.inl rfl, by omega⟩
set_option maxHeartbeats 1000000 in
theorem sat_l7Number (P : Program) (ins : List Value) (K : List Value → Prop) (_ : TypedL [.str] ins) (h : SP_l7Number ins K) : sat P Ss_l7Number tr_l7Number ins [] K := by
  obtain ⟨l, rfl, hl, hK⟩ := h
  have hlen : lenV (bv l) = (l.length : Int) := len_bv l
  refine evs_step (call_step rfl ⟨trivial, evs_nil ?_⟩)
  have hno : snum l = none → ∀ z, I64 z → K [.int .i64 z, .bool false] := by
    intro hn
    rw [hn] at hK
    exact hK
  have hin : i0 [lenV (bv l) |> Value.int .i64, .int .i64 1, .int .i64 4] 0 = (l.length : Int) := by
    show lenV (bv l) = _
    exact hlen
  have hG : G_l6In.out [Value.int .i64 (lenV (bv l)), .int .i64 1, .int .i64 4] = [.bool (inRg (l.length : Int) 1 4)] := by
    show [Value.bool (inRg (lenV (bv l)) 1 4)] = _
    rw [hlen]
  show sat P _ _ ([bv l] ++ G_l6In.out [Value.int .i64 (lenV (bv l)), .int .i64 1, .int .i64 4]) _ K
  rw [hG]
  have i640 : I64 0 := by unfold I64; omega
  refine ⟨fun hc => ?_, fun hc => ?_⟩
  · have hc : Value.bool (!inRg (l.length : Int) 1 4) = .bool true := hc
    have hc := Value.bool.inj hc
    refine hno ?_ 0 i640
    unfold snum
    split
    · rename_i h4
      have : l = [] := by
        cases l with
        | nil => rfl
        | cons x r => simp [inRg] at hc; simp at h4; omega
      rw [this]; rfl
    · rfl
  · have hc : Value.bool (!inRg (l.length : Int) 1 4) = .bool false := hc
    have hc := Value.bool.inj hc
    have h14 : 1 ≤ l.length ∧ l.length ≤ 4 := by simp [inRg] at hc; omega
    have hne : l ≠ [] := by intro e; rw [e] at h14; simp at h14
    refine ⟨fun vs => ∃ (i : Nat) (sg : Int) (n : Nat), vs = [.int .i64 i, .int .i64 sg, .int .i64 n] ∧ i ≤ l.length ∧ nst (l.take i) = some (sg, n), fun vs => l.length - (toI (vs.getD 0 undef)).toNat, ?_, ?_⟩
    · exact ⟨0, 1, 0, rfl, Nat.zero_le _, rfl⟩
    · rintro vs hty ⟨i, sg, n, rfl, hi, hst⟩
      obtain ⟨hsg, hn⟩ := nst_lt hst
      have hn4 : n < 10000 := by
        have h1 : (l.take i).length ≤ 4 := by simp; omega
        have := Nat.pow_le_pow_right (n := 10) (by decide) h1
        omega
      refine ⟨fun hc => ?_, fun hc => ?_⟩
      · have hc : Value.bool (decide ((i : Int) < lenV (bv l))) = .bool true := hc
        have hc2 := hc
        rw [hlen] at hc2
        have hlt : i < l.length := by have := bt_of hc2; omega
        have hx := List.getElem?_eq_getElem hlt
        have hb : byteV (strV (bv l)) (i : Int) = (l[i].toNat : Int) := byte_bv hx
        have hw : IntKind.i64.wrap ((i : Int) + 1) = ((i + 1 : Nat) : Int) := by rw [wrap_in (by omega)]; omega
        have htk : l.take (i + 1) = l.take i ++ [l[i]] := by rw [List.take_add_one, hx]; rfl
        have hstep := nst_step (x := l[i]) hst
        rw [← htk] at hstep
        have hmu : ∀ a b, l.length - (toI ([Value.int .i64 (IntKind.i64.wrap ((i : Int) + 1)), a, b].getD 0 undef)).toNat < l.length - (toI ([Value.int .i64 (i : Int), .int .i64 sg, .int .i64 n].getD 0 undef)).toNat := by
          intro a b
          show l.length - (IntKind.i64.wrap ((i : Int) + 1)).toNat < l.length - ((i : Int)).toNat
          rw [hw, Int.toNat_natCast, Int.toNat_natCast]
          clear hn4 hst hstep
          omega
        have hnil : l.take i = [] ↔ i = 0 := by
          constructor
          · intro e
            exact (List.take_eq_nil_iff.1 e).elim id fun h => absurd h hne
          · rintro rfl; rfl
        have h0i : Value.bool (decide (0 ≤ (i : Int))) = .bool true := bt (Int.natCast_nonneg i)
        have hfail : nst (l.take (i + 1)) = none → snum l = none := by
          intro hnn
          have : nst l = none := by
            rw [← List.take_append_drop (i + 1) l]
            exact nst_none hnn
          unfold snum
          rw [if_pos h14.2, sraw_nst hne, this]
          rfl
        refine evs_step (need_step (all_cons (need_if fun _ => h0i) (all_cons (need_if fun _ => hc) all_nil)) (evs_nil ?_))
        refine ⟨fun hg => ?_, fun hg => ?_⟩
        · have hg : (if ((i : Int) == 0) = true then Value.bool (byteV (strV (bv l)) i == 45) else Value.bool false) = .bool true := hg
          rw [hb] at hg
          have hi0 : i = 0 := by
            by_cases e : i = 0
            · exact e
            · rw [if_neg (by simp; omega)] at hg; cases hg
          rw [if_pos (by simp [hi0])] at hg
          have h45 : l[i] = 45 := by
            have := Value.bool.inj hg
            have : (l[i].toNat : Int) = 45 := by simpa using this
            exact UInt8.toNat_inj.1 (by show l[i].toNat = 45; omega)
          rw [if_pos ⟨hnil.2 hi0, h45⟩] at hstep
          have hn0 : n = 0 := by
            rw [hnil.2 hi0] at hst
            cases hst; rfl
          refine ⟨⟨i + 1, -1, 0, ?_, hlt, hstep⟩, hmu _ _⟩
          show [Value.int .i64 (IntKind.i64.wrap ((i : Int) + 1)), .int .i64 (-1), .int .i64 n] = _
          rw [hw, hn0]
        · have hg : (if ((i : Int) == 0) = true then Value.bool (byteV (strV (bv l)) i == 45) else Value.bool false) = .bool false := hg
          rw [hb] at hg
          have hno45 : ¬ (l.take i = [] ∧ l[i] = 45) := by
            rintro ⟨e1, e2⟩
            rw [if_pos (by simp [hnil.1 e1]), e2] at hg
            cases hg
          rw [if_neg hno45] at hstep
          refine evs_step (need_step (all_cons h0i (all_cons hc all_nil)) (need_step (all_cons (need_if fun _ => h0i) (all_cons (need_if fun _ => hc) all_nil)) (evs_nil ?_)))
          refine ⟨fun hd => ?_, fun hd => ?_⟩
          · have hd : (if decide (byteV (strV (bv l)) i ≥ 48) = true then Value.bool (decide (byteV (strV (bv l)) i ≤ 57)) else Value.bool false) = .bool true := hd
            rw [hb] at hd
            have hdig : 48 ≤ l[i].toNat ∧ l[i].toNat ≤ 57 := by
              by_cases e : (l[i].toNat : Int) ≥ 48
              · rw [if_pos (by simpa using e)] at hd
                have := bt_of hd
                omega
              · rw [if_neg (by simpa using e)] at hd; cases hd
            rw [if_pos hdig] at hstep
            refine evs_step (need_step (all_cons h0i (all_cons hc all_nil)) (evs_nil ⟨⟨i + 1, sg, 10 * n + (l[i].toNat - 48), ?_, hlt, hstep⟩, hmu _ _⟩))
            show [Value.int .i64 (IntKind.i64.wrap ((i : Int) + 1)), .int .i64 sg, .int .i64 (IntKind.i64.wrap (IntKind.i64.wrap (10 * (n : Int)) + IntKind.i64.wrap (IntKind.u8.wrap (byteV (strV (bv l)) i - 48))))] = _
            rw [hw, hb]
            have e1 : IntKind.u8.wrap ((l[i].toNat : Int) - 48) = ((l[i].toNat - 48 : Nat) : Int) := by
              rw [wrap_of_range (k := .u8) (by simp only [IntKind.min, IntKind.bits, IntKind.signed]; simp; omega) (by simp only [IntKind.max, IntKind.bits, IntKind.signed]; simp; omega)]
              omega
            rw [e1, wrap_in (show I64 (((l[i].toNat - 48 : Nat) : Int)) by unfold I64; omega), wrap_in (show I64 (10 * (n : Int)) by unfold I64; omega), wrap_in (by omega)]
            congr 4
          · have hd : (if decide (byteV (strV (bv l)) i ≥ 48) = true then Value.bool (decide (byteV (strV (bv l)) i ≤ 57)) else Value.bool false) = .bool false := hd
            rw [hb] at hd
            have hdig : ¬ (48 ≤ l[i].toNat ∧ l[i].toNat ≤ 57) := by
              intro e
              rw [if_pos (by simp; omega)] at hd
              have := bf_of hd
              omega
            rw [if_neg hdig] at hstep
            exact hno (hfail hstep) 0 i640
      · have hc : Value.bool (decide ((i : Int) < lenV (bv l))) = .bool false := hc
        rw [hlen] at hc
        have hge : i = l.length := by have := bf_of hc; omega
        subst hge
        rw [List.take_length] at hst
        have hsr : sraw l = some (sg * (n : Int)) := by rw [sraw_nst hne, hst]; rfl
        have hb : I64 (sg * (n : Int)) := by
          unfold I64
          rcases hsg with rfl | rfl <;> omega
        have hw : IntKind.i64.wrap (sg * (n : Int)) = sg * (n : Int) := wrap_in hb
        refine evs_step (call_step rfl ⟨IntKind.i64.wrap (sg * (n : Int)), rfl, evs_nil ?_⟩)
        show K [Value.int .i64 (IntKind.i64.wrap (sg * (n : Int))), .bool ((strV (bv (Lib.itoa (IntKind.i64.wrap (sg * (n : Int)))))).toList == (strV (bv l)).toList)]
        rw [hw, seq_bv]
        unfold snum at hK
        rw [if_pos h14.2, hsr] at hK
        dsimp only at hK
        by_cases he : Lib.itoa (sg * (n : Int)) = l
        · rw [if_pos he] at hK
          rw [decide_eq_true he]
          exact hK
        · rw [if_neg he] at hK
          rw [decide_eq_false he]
          exact hK _ hb

def tr_l7One : Tr :=
  (.ite (.cmp .lss (.len (.var 0)) (.int .i64 2))
  (.ret [(.int .u8 0), (.val (.slice none 0 0)), (.bool false), (.val (.agg #[]))])
  (.evs [.need [(.bool true), (.cmp .lss (.int .i64 0) (.len (.var 0)))],
     .app (.val (.agg #[])) 1 (.cells [])]
   (.evs [.need [(.bool true), (.cmp .leq (.int .i64 1) (.len (.var 0))), (.cmp .leq (.len (.var 0)) (.len (.var 0)))],
     .call 0 [(.ssub (.var 0) (.int .i64 1) (.len (.var 0))), (.int .u8 58)] none 2]
   (.lp 0 [(.int .i64 0), (.var 1), (.val (.agg #[]))] [.int .i64, .sl, .row .i64 1]
   (.ite (.cmp .lss (.var 5) (.len (.var 3)))
    (.evs [.need [(.inb (.var 4) (.var 5) 1)],
       .call 1 [(.sel (.var 4) (.var 5) 1 0)] none 2]
     (.ite (.not (.var 9))
     (.ret [(.sidx (.var 0) (.int .i64 0)), (.var 6), (.bool false), (.var 7)])
     (.evs [.app (.var 7) 1 (.cells [(.var 8)])]
      (.next 0 [(.ar .add .i64 (.var 5) (.int .i64 1)), (.var 10), (.var 11)]))))
    (.ite (.cmp .eql (.sidx (.var 0) (.int .i64 0)) (.int .u8 114))
     (.ite (.cmp .eql (.sidx (.var 0) (.int .i64 0)) (.int .u8 114))
      (.ite (.cmp .neq (.len (.var 6)) (.int .i64 2))
       (.ret [(.sidx (.var 0) (.int .i64 0)), (.var 6), (.bool false), (.var 7)])
       (.evs [.need [(.inb (.var 7) (.int .i64 0) 1), (.inb (.var 7) (.int .i64 1) 1)],
          .need [(.inb (.var 7) (.int .i64 0) 1), (.inb (.var 7) (.int .i64 1) 1)],
          .call 2 [(.sel (.var 7) (.int .i64 0) 1 0), (.sel (.var 7) (.int .i64 1) 1 0)] none 7]
        (.ret [(.sidx (.var 0) (.int .i64 0)), (.var 6), (.var 14), (.var 7)])))
      (.ite (.cmp .eql (.sidx (.var 0) (.int .i64 0)) (.int .u8 119))
       (.ite (.cmp .neq (.len (.var 6)) (.int .i64 3))
        (.ret [(.sidx (.var 0) (.int .i64 0)), (.var 6), (.bool false), (.var 7)])
        (.evs [.need [(.inb (.var 7) (.int .i64 0) 1), (.inb (.var 7) (.int .i64 1) 1)],
           .need [(.inb (.var 7) (.int .i64 0) 1), (.inb (.var 7) (.int .i64 1) 1)],
           .call 2 [(.sel (.var 7) (.int .i64 0) 1 0), (.sel (.var 7) (.int .i64 1) 1 0)] none 7]
         (.evs [.need [(.ite (.var 14) (.inb (.var 7) (.int .i64 2) 1) (.bool true))],
           .need [(.ite (.var 14) (.inb (.var 7) (.int .i64 2) 1) (.bool true))],
           .call 3 [(.sel (.var 7) (.int .i64 2) 1 0), (.int .i64 0), (.int .i64 3)] (some (.var 14)) 1]
         (.ret [(.sidx (.var 0) (.int .i64 0)), (.var 6), (.ite (.var 14) (.var 15) (.bool false)), (.var 7)]))))
       (.ite (.cmp .eql (.sidx (.var 0) (.int .i64 0)) (.int .u8 97))
        (.ite (.cmp .eql (.sidx (.var 0) (.int .i64 0)) (.int .u8 97))
         (.evs [.need [(.ite (.cmp .eql (.len (.var 6)) (.int .i64 2)) (.inb (.var 7) (.int .i64 1) 1) (.bool true)), (.ite (.cmp .eql (.len (.var 6)) (.int .i64 2)) (.inb (.var 7) (.int .i64 0) 1) (.bool true)), (.ite (.cmp .eql (.len (.var 6)) (.int .i64 2)) (.inb (.var 7) (.int .i64 1) 1) (.bool true))],
            .need [(.ite (.cmp .eql (.len (.var 6)) (.int .i64 2)) (.inb (.var 7) (.int .i64 1) 1) (.bool true))],
            .call 3 [(.sel (.var 7) (.int .i64 1) 1 0), (.int .i64 1), (.int .i64 100)] (some (.cmp .eql (.len (.var 6)) (.int .i64 2))) 1,
            .need [(.ite (.ite (.cmp .eql (.len (.var 6)) (.int .i64 2)) (.var 8) (.bool false)) (.inb (.var 7) (.int .i64 0) 1) (.bool true)), (.ite (.ite (.cmp .eql (.len (.var 6)) (.int .i64 2)) (.var 8) (.bool false)) (.inb (.var 7) (.int .i64 1) 1) (.bool true))],
            .call 3 [(.sel (.var 7) (.int .i64 0) 1 0), (.int .i64 0), (.sel (.var 7) (.int .i64 1) 1 0)] (some (.ite (.cmp .eql (.len (.var 6)) (.int .i64 2)) (.var 8) (.bool false))) 1]
          (.ret [(.sidx (.var 0) (.int .i64 0)), (.var 6), (.ite (.ite (.cmp .eql (.len (.var 6)) (.int .i64 2)) (.var 8) (.bool false)) (.var 9) (.bool false)), (.var 7)]))
         (.ret [(.sidx (.var 0) (.int .i64 0)), (.var 6), (.bool false), (.var 7)]))
        (.ite (.cmp .eql (.sidx (.var 0) (.int .i64 0)) (.int .u8 100))
         (.evs [.need [(.ite (.cmp .eql (.len (.var 6)) (.int .i64 2)) (.inb (.var 7) (.int .i64 1) 1) (.bool true)), (.ite (.cmp .eql (.len (.var 6)) (.int .i64 2)) (.inb (.var 7) (.int .i64 0) 1) (.bool true)), (.ite (.cmp .eql (.len (.var 6)) (.int .i64 2)) (.inb (.var 7) (.int .i64 1) 1) (.bool true))],
            .need [(.ite (.cmp .eql (.len (.var 6)) (.int .i64 2)) (.inb (.var 7) (.int .i64 1) 1) (.bool true))],
            .call 3 [(.sel (.var 7) (.int .i64 1) 1 0), (.int .i64 1), (.int .i64 100)] (some (.cmp .eql (.len (.var 6)) (.int .i64 2))) 1,
            .need [(.ite (.ite (.cmp .eql (.len (.var 6)) (.int .i64 2)) (.var 8) (.bool false)) (.inb (.var 7) (.int .i64 0) 1) (.bool true)), (.ite (.ite (.cmp .eql (.len (.var 6)) (.int .i64 2)) (.var 8) (.bool false)) (.inb (.var 7) (.int .i64 1) 1) (.bool true))],
            .call 3 [(.sel (.var 7) (.int .i64 0) 1 0), (.int .i64 0), (.sel (.var 7) (.int .i64 1) 1 0)] (some (.ite (.cmp .eql (.len (.var 6)) (.int .i64 2)) (.var 8) (.bool false))) 1]
          (.ret [(.sidx (.var 0) (.int .i64 0)), (.var 6), (.ite (.ite (.cmp .eql (.len (.var 6)) (.int .i64 2)) (.var 8) (.bool false)) (.var 9) (.bool false)), (.var 7)]))
         (.ret [(.sidx (.var 0) (.int .i64 0)), (.var 6), (.bool false), (.var 7)])))))
     (.ite (.cmp .eql (.sidx (.var 0) (.int .i64 0)) (.int .u8 102))
      (.ite (.cmp .neq (.len (.var 6)) (.int .i64 2))
       (.ret [(.sidx (.var 0) (.int .i64 0)), (.var 6), (.bool false), (.var 7)])
       (.evs [.need [(.inb (.var 7) (.int .i64 0) 1), (.inb (.var 7) (.int .i64 1) 1)],
          .need [(.inb (.var 7) (.int .i64 0) 1), (.inb (.var 7) (.int .i64 1) 1)],
          .call 2 [(.sel (.var 7) (.int .i64 0) 1 0), (.sel (.var 7) (.int .i64 1) 1 0)] none 7]
        (.ret [(.sidx (.var 0) (.int .i64 0)), (.var 6), (.var 14), (.var 7)])))
      (.ite (.cmp .eql (.sidx (.var 0) (.int .i64 0)) (.int .u8 119))
       (.ite (.cmp .neq (.len (.var 6)) (.int .i64 3))
        (.ret [(.sidx (.var 0) (.int .i64 0)), (.var 6), (.bool false), (.var 7)])
        (.evs [.need [(.inb (.var 7) (.int .i64 0) 1), (.inb (.var 7) (.int .i64 1) 1)],
           .need [(.inb (.var 7) (.int .i64 0) 1), (.inb (.var 7) (.int .i64 1) 1)],
           .call 2 [(.sel (.var 7) (.int .i64 0) 1 0), (.sel (.var 7) (.int .i64 1) 1 0)] none 7]
         (.evs [.need [(.ite (.var 14) (.inb (.var 7) (.int .i64 2) 1) (.bool true))],
           .need [(.ite (.var 14) (.inb (.var 7) (.int .i64 2) 1) (.bool true))],
           .call 3 [(.sel (.var 7) (.int .i64 2) 1 0), (.int .i64 0), (.int .i64 3)] (some (.var 14)) 1]
         (.ret [(.sidx (.var 0) (.int .i64 0)), (.var 6), (.ite (.var 14) (.var 15) (.bool false)), (.var 7)]))))
       (.ite (.cmp .eql (.sidx (.var 0) (.int .i64 0)) (.int .u8 97))
        (.ite (.cmp .eql (.sidx (.var 0) (.int .i64 0)) (.int .u8 97))
         (.evs [.need [(.ite (.cmp .eql (.len (.var 6)) (.int .i64 2)) (.inb (.var 7) (.int .i64 1) 1) (.bool true)), (.ite (.cmp .eql (.len (.var 6)) (.int .i64 2)) (.inb (.var 7) (.int .i64 0) 1) (.bool true)), (.ite (.cmp .eql (.len (.var 6)) (.int .i64 2)) (.inb (.var 7) (.int .i64 1) 1) (.bool true))],
            .need [(.ite (.cmp .eql (.len (.var 6)) (.int .i64 2)) (.inb (.var 7) (.int .i64 1) 1) (.bool true))],
            .call 3 [(.sel (.var 7) (.int .i64 1) 1 0), (.int .i64 1), (.int .i64 100)] (some (.cmp .eql (.len (.var 6)) (.int .i64 2))) 1,
            .need [(.ite (.ite (.cmp .eql (.len (.var 6)) (.int .i64 2)) (.var 8) (.bool false)) (.inb (.var 7) (.int .i64 0) 1) (.bool true)), (.ite (.ite (.cmp .eql (.len (.var 6)) (.int .i64 2)) (.var 8) (.bool false)) (.inb (.var 7) (.int .i64 1) 1) (.bool true))],
            .call 3 [(.sel (.var 7) (.int .i64 0) 1 0), (.int .i64 0), (.sel (.var 7) (.int .i64 1) 1 0)] (some (.ite (.cmp .eql (.len (.var 6)) (.int .i64 2)) (.var 8) (.bool false))) 1]
          (.ret [(.sidx (.var 0) (.int .i64 0)), (.var 6), (.ite (.ite (.cmp .eql (.len (.var 6)) (.int .i64 2)) (.var 8) (.bool false)) (.var 9) (.bool false)), (.var 7)]))
         (.ret [(.sidx (.var 0) (.int .i64 0)), (.var 6), (.bool false), (.var 7)]))
        (.ite (.cmp .eql (.sidx (.var 0) (.int .i64 0)) (.int .u8 100))
         (.evs [.need [(.ite (.cmp .eql (.len (.var 6)) (.int .i64 2)) (.inb (.var 7) (.int .i64 1) 1) (.bool true)), (.ite (.cmp .eql (.len (.var 6)) (.int .i64 2)) (.inb (.var 7) (.int .i64 0) 1) (.bool true)), (.ite (.cmp .eql (.len (.var 6)) (.int .i64 2)) (.inb (.var 7) (.int .i64 1) 1) (.bool true))],
            .need [(.ite (.cmp .eql (.len (.var 6)) (.int .i64 2)) (.inb (.var 7) (.int .i64 1) 1) (.bool true))],
            .call 3 [(.sel (.var 7) (.int .i64 1) 1 0), (.int .i64 1), (.int .i64 100)] (some (.cmp .eql (.len (.var 6)) (.int .i64 2))) 1,
            .need [(.ite (.ite (.cmp .eql (.len (.var 6)) (.int .i64 2)) (.var 8) (.bool false)) (.inb (.var 7) (.int .i64 0) 1) (.bool true)), (.ite (.ite (.cmp .eql (.len (.var 6)) (.int .i64 2)) (.var 8) (.bool false)) (.inb (.var 7) (.int .i64 1) 1) (.bool true))],
            .call 3 [(.sel (.var 7) (.int .i64 0) 1 0), (.int .i64 0), (.sel (.var 7) (.int .i64 1) 1 0)] (some (.ite (.cmp .eql (.len (.var 6)) (.int .i64 2)) (.var 8) (.bool false))) 1]
          (.ret [(.sidx (.var 0) (.int .i64 0)), (.var 6), (.ite (.ite (.cmp .eql (.len (.var 6)) (.int .i64 2)) (.var 8) (.bool false)) (.var 9) (.bool false)), (.var 7)]))
         (.ret [(.sidx (.var 0) (.int .i64 0)), (.var 6), (.bool false), (.var 7)])))))))))))
def Ss_l7One : List Spec := [SP_l7Cut, SP_l7Number, G_l5Direction.spec, G_l6In.spec]
-- part lf
theorem ite_t {P : Program} {specs : List Spec} {c : Ex} {a b : Tr} {env : List Value} {N : List (List Value → Prop)} {K : List Value → Prop} (h : ev env c = .bool true) (ha : sat P specs a env N K) : sat P specs (.ite c a b) env N K :=
  ⟨fun _ => ha, (fun h2 => by rw [h] at h2; cases h2)⟩
theorem ite_f {P : Program} {specs : List Spec} {c : Ex} {a b : Tr} {env : List Value} {N : List (List Value → Prop)} {K : List Value → Prop} (h : ev env c = .bool false) (hb : sat P specs b env N K) : sat P specs (.ite c a b) env N K :=
  ⟨(fun h2 => by rw [h] at h2; cases h2), fun _ => hb⟩
theorem beq_f {k m : UInt8} (h : k ≠ m) : Value.bool ((k.toNat : Int) == (m.toNat : Int)) = .bool false := by
  congr 1
  rw [beq_eq_false_iff_ne]
  intro e
  exact h (UInt8.toNat_inj.1 (by omega))
theorem two_list {ns : List Int} (h : ns.length = 2) : ∃ p q, ns = [p, q] := by
  match ns, h with
  | [p, q], _ => exact ⟨p, q, rfl⟩
theorem three_list {ns : List Int} (h : ns.length = 3) : ∃ p q r, ns = [p, q, r] := by
  match ns, h with
  | [p, q, r], _ => exact ⟨p, q, r, rfl⟩
theorem ok_len2 {k : UInt8} {ns : List Int} (hk : k = 114 ∨ k = 102 ∨ k = 97 ∨ k = 100) (h : ns.length ≠ 2) : okPiece k ns = false := by
  match ns, h with
  | [], _ => rcases hk with rfl | rfl | rfl | rfl <;> rfl
  | [_], _ => rcases hk with rfl | rfl | rfl | rfl <;> rfl
  | [_, _], h => exact absurd rfl h
  | _ :: _ :: _ :: _, _ => rcases hk with rfl | rfl | rfl | rfl <;> rfl
theorem ok_len3 {ns : List Int} (h : ns.length ≠ 3) : okPiece 119 ns = false := by
  match ns, h with
  | [], _ => rfl
  | [_], _ => rfl
  | [_, _], _ => rfl
  | [_, _, _], h => exact absurd rfl h
  | _ :: _ :: _ :: _ :: _, _ => rfl
theorem ok_other {k : UInt8} {ns : List Int} (h1 : k ≠ 114) (h2 : k ≠ 102) (h3 : k ≠ 119) (h4 : k ≠ 97) (h5 : k ≠ 100) : okPiece k ns = false := by
  unfold okPiece
  rw [if_neg (by simp [h1, h2]), if_neg h3, if_neg (by simp [h4, h5])]
theorem k_cases (k : UInt8) : k = 114 ∨ k = 102 ∨ k = 119 ∨ k = 97 ∨ k = 100 ∨ (k ≠ 114 ∧ k ≠ 102 ∧ k ≠ 119 ∧ k ≠ 97 ∧ k ≠ 100) := by
  by_cases h1 : k = 114
  · exact .inl h1
  by_cases h2 : k = 102
  · exact .inr (.inl h2)
  by_cases h3 : k = 119
  · exact .inr (.inr (.inl h3))
  by_cases h4 : k = 97
  · exact .inr (.inr (.inr (.inl h4)))
  by_cases h5 : k = 100
  · exact .inr (.inr (.inr (.inr (.inl h5))))
  exact .inr (.inr (.inr (.inr (.inr ⟨h1, h2, h3, h4, h5⟩))))
def SP_l7One : Spec := SP_one
set_option maxHeartbeats 2000000 in
theorem sat_l7One (P : Program) (ins : List Value) (K : List Value → Prop) (_ : TypedL [.str] ins) (h : SP_l7One ins K) : sat P Ss_l7One tr_l7One ins [] K := by
  obtain ⟨s, rfl, hl, hK⟩ := h
  have hlen : lenV (bv s) = (s.length : Int) := len_bv s
  have hno : pieceW snum s = none → ∀ k x c, K [k, x, .bool false, c] := by
    intro hn
    rw [hn] at hK
    exact hK
  refine ⟨fun hc => ?_, fun hc => ?_⟩
  · have hc : Value.bool (decide (lenV (bv s) < 2)) = .bool true := hc
    rw [hlen] at hc
    have hlt := bt_of hc
    refine hno ?_ _ _ _
    match s, hlt with
    | [], _ => rfl
    | [k], _ => rfl
    | _ :: _ :: _, h => simp at h; omega
  · have hc : Value.bool (decide (lenV (bv s) < 2)) = .bool false := hc
    rw [hlen] at hc
    have hge := bf_of hc
    obtain ⟨k, r, rfl⟩ : ∃ k r, s = k :: r := by
      cases s with
      | nil => simp at hge
      | cons k r => exact ⟨k, r, rfl⟩
    have h0l : Value.bool (decide (0 < lenV (bv (k :: r)))) = .bool true := by
      rw [hlen]
      exact bt (by simp only [List.length_cons]; omega)
    refine evs_step (need_step (all_cons rfl (all_cons h0l all_nil)) (app_empty (by omega) fun a1 cap1 => evs_nil ?_))
    refine evs_step (need_step (all_cons rfl (all_cons ?_ (all_cons ?_ all_nil))) (call_step rfl ?_))
    · show Value.bool (decide (1 ≤ lenV (bv (k :: r)))) = _
      rw [hlen]
      exact bt (by simp only [List.length_cons]; omega)
    · show Value.bool (decide (lenV (bv (k :: r)) ≤ lenV (bv (k :: r)))) = _
      exact bt (Int.le_refl _)
    · refine ⟨r, 58, ?_, by simp at hl; omega, fun a2 len2 cap2 hl2 => evs_nil ?_⟩
      · show [Value.string ((strV (bv (k :: r))).extract 1 (lenV (bv (k :: r))).toNat), u8 58] = _
        rw [extract_bv, hlen]
        simp
      subst hl2
      refine ⟨fun vs => ∃ (i : Nat) (a : Option Addr) (cap : Nat) (ns : List Int), vs = [.int .i64 i, .slice a i cap, rowI ns] ∧ i ≤ (cut 58 r).length ∧ numsW snum ((cut 58 r).take i) = some ns, fun vs => (cut 58 r).length - (toI (vs.getD 0 undef)).toNat, ?_, ?_⟩
      · exact ⟨0, a1, cap1, [], rfl, Nat.zero_le _, rfl⟩
      · rintro vs hty ⟨i, a, cap, ns, rfl, hi, hns⟩
        have hnl : ns.length = i := by
          rw [numsW_length hns]; simp; omega
        have hcc := cut_count 58 r
        refine ⟨fun hc => ?_, fun hc => ?_⟩
        · have hlt : i < (cut 58 r).length := by
            have hc : Value.bool (decide ((i : Int) < ((cut 58 r).length : Int))) = .bool true := hc
            have := bt_of hc; omega
          have hx := List.getElem?_eq_getElem hlt
          have hw : IntKind.i64.wrap ((i : Int) + 1) = ((i + 1 : Nat) : Int) := by rw [wrap_in (by simp at hl; omega)]; omega
          have htk : (cut 58 r).take (i + 1) = (cut 58 r).take i ++ [(cut 58 r)[i]] := by rw [List.take_add_one, hx]; rfl
          have hwl := cut_len 58 r _ (List.getElem_mem hlt)
          have hsn := numsW_snoc (nm := snum) (w := (cut 58 r)[i]) (ws := (cut 58 r).take i)
          rw [hns] at hsn
          refine evs_step (need_step (all_cons (inb_true (c := rowS (cut 58 r)) (i := i) (n := 1) (by simp [rowS_cells]; omega)) all_nil) (call_step rfl ?_))
          refine ⟨(cut 58 r)[i], ?_, by simp at hl; omega, ?_⟩
          · show [(rowS (cut 58 r)).cells.getD (((i : Int)).toNat * 1 + 0) undef] = _
            rw [Int.toNat_natCast, rowS_get hx]
          cases hv : snum (cut 58 r)[i] with
          | none =>
            intro z _
            refine evs_nil (ite_t rfl ?_)
            refine hno ?_ _ _ _
            have : numsW snum (cut 58 r) = none := numsW_none hv (List.getElem_mem hlt)
            simp only [pieceW, this]
          | some n =>
            rw [hv] at hsn
            have hsn : numsW snum ((cut 58 r).take i ++ [(cut 58 r)[i]]) = some (ns ++ [n]) := hsn
            refine evs_nil (ite_f rfl ?_)
            refine evs_step (app_step (xs := intVals ns) (ys := [.int .i64 n]) rfl rfl (by rw [intVals_map]; simp; simp at hl; omega) fun a3 len3 cap3 _ hl3 => evs_nil ?_)
            have hl3 : len3 = i + 1 := by rw [intVals_map] at hl3; simp at hl3; omega
            subst hl3
            refine ⟨⟨i + 1, a3, cap3, ns ++ [n], ?_, hlt, by rw [htk]; exact hsn⟩, ?_⟩
            · rw [← rowI_snoc]
              show [Value.int .i64 (IntKind.i64.wrap ((i : Int) + 1)), .slice a3 (i + 1) cap3, Value.agg (intVals ns ++ [Value.int .i64 n]).toArray] = _
              rw [hw]
            · show (cut 58 r).length - (IntKind.i64.wrap ((i : Int) + 1)).toNat < (cut 58 r).length - ((i : Int)).toNat
              rw [hw, Int.toNat_natCast, Int.toNat_natCast]
              omega
        · have hge : i = (cut 58 r).length := by
            have hc : Value.bool (decide ((i : Int) < ((cut 58 r).length : Int))) = .bool false := hc
            have := bf_of hc; omega
          have hns2 : numsW snum (cut 58 r) = some ns := by
            rw [← hns, hge, List.take_length]
          have hdone : ∀ b, okPiece k ns = b → K [u8 k, .slice a i cap, .bool b, rowI ns] := by
            intro b hb
            simp only [pieceW, hns2, hb] at hK
            cases b with
            | true => exact hK a i cap hnl.symm
            | false => exact hK _ _ _
          clear hK hno hc hty hns hns2 hge hcc hi
          subst hnl
          have hneq : ∀ m : Nat, Value.bool ((ns.length : Int) != (m : Int)) = .bool (decide (ns.length ≠ m)) := by
            intro m
            congr 1
            by_cases e : ns.length = m
            · simp [e]
            · simp [e]; omega
          have heq : ∀ m : Nat, Value.bool ((ns.length : Int) == (m : Int)) = .bool (decide (ns.length = m)) := by
            intro m
            congr 1
            by_cases e : ns.length = m
            · simp [e]
            · simp [e]; omega
          rcases k_cases k with rfl | rfl | rfl | rfl | rfl | ⟨k1, k2, k3, k4, k5⟩
          · refine ite_t rfl (ite_t rfl ?_)
            by_cases h2 : ns.length = 2
            · obtain ⟨p, q, rfl⟩ := two_list h2
              refine ite_f rfl (evs_step (need_step (all_cons rfl (all_cons rfl all_nil)) (need_step (all_cons rfl (all_cons rfl all_nil)) (call_step rfl ⟨trivial, evs_nil ?_⟩))))
              exact hdone (dirOk p q) rfl
            · exact ite_t ((hneq 2).trans (bt h2)) (hdone false (ok_len2 (by simp) h2))
          · refine ite_f rfl (ite_t rfl ?_)
            by_cases h2 : ns.length = 2
            · obtain ⟨p, q, rfl⟩ := two_list h2
              refine ite_f rfl (evs_step (need_step (all_cons rfl (all_cons rfl all_nil)) (need_step (all_cons rfl (all_cons rfl all_nil)) (call_step rfl ⟨trivial, evs_nil ?_⟩))))
              exact hdone (dirOk p q) rfl
            · exact ite_t ((hneq 2).trans (bt h2)) (hdone false (ok_len2 (by simp) h2))
          · refine ite_f rfl (ite_f rfl (ite_t rfl ?_))
            by_cases h3 : ns.length = 3
            · obtain ⟨p, q, t, rfl⟩ := three_list h3
              refine ite_f rfl (evs_step (need_step (all_cons rfl (all_cons rfl all_nil)) (need_step (all_cons rfl (all_cons rfl all_nil)) (call_step rfl ⟨trivial, evs_nil ?_⟩))))
              refine evs_step (need_step (all_cons (need_if fun _ => rfl) all_nil) (need_step (all_cons (need_if fun _ => rfl) all_nil) (callg_step rfl (fun hg => ⟨trivial, evs_nil ?_⟩) (fun hg => evs_nil ?_))))
              · have hg : dirOk p q = true := hg
                have := hdone (dirOk p q && inRg t 0 3) rfl
                rw [hg, Bool.true_and] at this
                show K [_, _, (if toB (Value.bool (dirOk p q)) = true then Value.bool (inRg t 0 3) else Value.bool false), _]
                rw [hg]
                exact this
              · have hg : dirOk p q = false := hg
                have := hdone (dirOk p q && inRg t 0 3) rfl
                rw [hg, Bool.false_and] at this
                show K [_, _, (if toB (Value.bool (dirOk p q)) = true then _ else Value.bool false), _]
                rw [hg]
                exact this
            · exact ite_t ((hneq 3).trans (bt h3)) (hdone false (ok_len3 h3))
          · refine ite_f rfl (ite_f rfl (ite_f rfl (ite_t rfl (ite_t rfl ?_))))
            by_cases h2 : ns.length = 2
            · obtain ⟨n, d, rfl⟩ := two_list h2
              refine evs_step (need_step (all_cons (need_if fun _ => rfl) (all_cons (need_if fun _ => rfl) (all_cons (need_if fun _ => rfl) all_nil))) (need_step (all_cons (need_if fun _ => rfl) all_nil) (callg_step rfl (fun _ => ⟨trivial, ?_⟩) (fun hg => (by cases hg)))))
              refine need_step (all_cons (need_if fun _ => rfl) (all_cons (need_if fun _ => rfl) all_nil)) (callg_step rfl (fun hg => ⟨trivial, evs_nil ?_⟩) (fun hg => evs_nil ?_))
              · have hg : inRg d 1 100 = true := hg
                have := hdone (inRg d 1 100 && inRg n 0 d) rfl
                rw [hg, Bool.true_and] at this
                show K [_, _, (if toB (Value.bool (inRg d 1 100)) = true then Value.bool (inRg n 0 d) else Value.bool false), _]
                rw [hg]
                exact this
              · have hg : inRg d 1 100 = false := hg
                have := hdone (inRg d 1 100 && inRg n 0 d) rfl
                rw [hg, Bool.false_and] at this
                show K [_, _, (if toB (Value.bool (inRg d 1 100)) = true then _ else Value.bool false), _]
                rw [hg]
                exact this
            · have e2 : Value.bool ((ns.length : Int) == 2) = .bool false := (heq 2).trans (congrArg Value.bool (decide_eq_false h2))
              have g0 : ¬ toB (Value.bool ((ns.length : Int) == 2)) = true := by rw [e2]; simp
              refine evs_step (need_step (all_cons (need_if fun h => absurd h g0) (all_cons (need_if fun h => absurd h g0) (all_cons (need_if fun h => absurd h g0) all_nil))) (need_step (all_cons (need_if fun h => absurd h g0) all_nil) (callg_step rfl (fun h => absurd h g0) (fun _ => ?_))))
              have g1 : ∀ v : Value, ¬ toB (if toB (Value.bool ((ns.length : Int) == 2)) = true then v else Value.bool false) = true := by
                intro v
                rw [if_neg g0]
                simp
              refine need_step (all_cons (need_if fun h => absurd h (g1 _)) (all_cons (need_if fun h => absurd h (g1 _)) all_nil)) (callg_step rfl (fun h => absurd h (g1 _)) (fun _ => evs_nil ?_))
              show K [_, _, (if toB (if toB (Value.bool ((ns.length : Int) == 2)) = true then undef else Value.bool false) = true then undef else Value.bool false), _]
              rw [if_neg (g1 _)]
              exact hdone false (ok_len2 (by simp) h2)
          · refine ite_f rfl (ite_f rfl (ite_f rfl (ite_f rfl (ite_t rfl ?_))))
            by_cases h2 : ns.length = 2
            · obtain ⟨n, d, rfl⟩ := two_list h2
              refine evs_step (need_step (all_cons (need_if fun _ => rfl) (all_cons (need_if fun _ => rfl) (all_cons (need_if fun _ => rfl) all_nil))) (need_step (all_cons (need_if fun _ => rfl) all_nil) (callg_step rfl (fun _ => ⟨trivial, ?_⟩) (fun hg => (by cases hg)))))
              refine need_step (all_cons (need_if fun _ => rfl) (all_cons (need_if fun _ => rfl) all_nil)) (callg_step rfl (fun hg => ⟨trivial, evs_nil ?_⟩) (fun hg => evs_nil ?_))
              · have hg : inRg d 1 100 = true := hg
                have := hdone (inRg d 1 100 && inRg n 0 d) rfl
                rw [hg, Bool.true_and] at this
                show K [_, _, (if toB (Value.bool (inRg d 1 100)) = true then Value.bool (inRg n 0 d) else Value.bool false), _]
                rw [hg]
                exact this
              · have hg : inRg d 1 100 = false := hg
                have := hdone (inRg d 1 100 && inRg n 0 d) rfl
                rw [hg, Bool.false_and] at this
                show K [_, _, (if toB (Value.bool (inRg d 1 100)) = true then _ else Value.bool false), _]
                rw [hg]
                exact this
            · have e2 : Value.bool ((ns.length : Int) == 2) = .bool false := (heq 2).trans (congrArg Value.bool (decide_eq_false h2))
              have g0 : ¬ toB (Value.bool ((ns.length : Int) == 2)) = true := by rw [e2]; simp
              refine evs_step (need_step (all_cons (need_if fun h => absurd h g0) (all_cons (need_if fun h => absurd h g0) (all_cons (need_if fun h => absurd h g0) all_nil))) (need_step (all_cons (need_if fun h => absurd h g0) all_nil) (callg_step rfl (fun h => absurd h g0) (fun _ => ?_))))
              have g1 : ∀ v : Value, ¬ toB (if toB (Value.bool ((ns.length : Int) == 2)) = true then v else Value.bool false) = true := by
                intro v
                rw [if_neg g0]
                simp
              refine need_step (all_cons (need_if fun h => absurd h (g1 _)) (all_cons (need_if fun h => absurd h (g1 _)) all_nil)) (callg_step rfl (fun h => absurd h (g1 _)) (fun _ => evs_nil ?_))
              show K [_, _, (if toB (if toB (Value.bool ((ns.length : Int) == 2)) = true then undef else Value.bool false) = true then undef else Value.bool false), _]
              rw [if_neg (g1 _)]
              exact hdone false (ok_len2 (by simp) h2)
          · exact ite_f (beq_f k1) (ite_f (beq_f k2) (ite_f (beq_f k3) (ite_f (beq_f k4) (ite_f (beq_f k5) (hdone false (ok_other k1 k2 k3 k4 k5))))))

def tr_l7Bench : Tr :=
  (.evs [.app (.val (.agg #[])) 2 (.cells [])]
  (.ite (.seq (.var 0) (.val (.string ⟨#[]⟩)))
  (.ret [(.var 1), (.bool true), (.val (.agg #[]))])
  (.ite (.cmp .gtr (.len (.var 0)) (.int .i64 300))
   (.ret [(.var 1), (.bool false), (.val (.agg #[]))])
   (.evs [.call 0 [(.var 0), (.int .u8 32)] none 2]
    (.lp 0 [(.int .i64 0), (.var 1), (.val (.agg #[]))] [.int .i64, .sl, .rowC [.int .u8, .fat .i64 1]]
    (.ite (.cmp .lss (.var 5) (.len (.var 3)))
     (.evs [.need [(.inb (.var 4) (.var 5) 1)],
        .call 1 [(.sel (.var 4) (.var 5) 1 0)] none 4]
      (.ite (.not (.var 10))
      (.ret [(.var 6), (.bool false), (.var 7)])
      (.evs [.app (.var 7) 2 (.cells [(.var 8), (.fat (.var 9) (.var 11))])]
       (.next 0 [(.ar .add .i64 (.var 5) (.int .i64 1)), (.var 12), (.var 13)]))))
     (.ret [(.var 6), (.cmp .leq (.len (.var 6)) (.int .i64 12)), (.var 7)])))))))
def Ss_l7Bench : List Spec := [SP_l7Cut, SP_l7One]
def SP_l7Bench : Spec := SP_sb
set_option maxHeartbeats 1000000 in
theorem sat_l7Bench (P : Program) (ins : List Value) (K : List Value → Prop) (_ : TypedL [.str] ins) (h : SP_l7Bench ins K) : sat P Ss_l7Bench tr_l7Bench ins [] K := by
  obtain ⟨s, rfl, hK⟩ := h
  have hlen : lenV (bv s) = (s.length : Int) := len_bv s
  have hno : benchW s = none → ∀ x c, K [x, .bool false, c] := by
    intro hn
    rw [hn] at hK
    exact hK
  refine evs_step (app_empty (by omega) fun a1 cap1 => evs_nil ?_)
  refine ⟨fun hc => ?_, fun hc => ?_⟩
  · have hc : Value.bool ((strV (bv s)).toList == (strV (bv [])).toList) = .bool true := hc
    rw [seq_bv] at hc
    have hs := bt_of hc
    subst hs
    exact hK a1 0 cap1 [] rfl (fun p hp => by cases hp) rfl
  · have hc : Value.bool ((strV (bv s)).toList == (strV (bv [])).toList) = .bool false := hc
    rw [seq_bv] at hc
    have hs := bf_of hc
    clear hc
    refine ⟨fun hc => ?_, fun hc => ?_⟩
    · have hc : Value.bool (decide (lenV (bv s) > 300)) = .bool true := hc
      rw [hlen] at hc
      have hgt := bt_of hc
      refine hno ?_ _ _
      cases hb : benchW s with
      | none => rfl
      | some ps => have := benchW_length hb; omega
    · have hc : Value.bool (decide (lenV (bv s) > 300)) = .bool false := hc
      rw [hlen] at hc
      have hle := bf_of hc
      refine evs_step (call_step rfl ⟨s, 32, rfl, by omega, fun a2 len2 cap2 hl2 => evs_nil ?_⟩)
      subst hl2
      have hcc := cut_count 32 s
      refine ⟨fun vs => ∃ (i : Nat) (a : Option Addr) (cap : Nat) (l : List PV), vs = [.int .i64 i, .slice a i cap, rowL l] ∧ i ≤ (cut 32 s).length ∧ pcsW ((cut 32 s).take i) = some (l.map Prod.fst) ∧ (∀ p ∈ l, SlOk p), fun vs => (cut 32 s).length - (toI (vs.getD 0 undef)).toNat, ?_, ?_⟩
      · exact ⟨0, a1, cap1, [], rfl, Nat.zero_le _, rfl, fun p hp => by cases hp⟩
      · rintro vs hty ⟨i, a, cap, l, rfl, hi, hps, hok⟩
        have hnl : l.length = i := by
          have := (pcsW_length hps).1
          simp at this; omega
        refine ⟨fun hc => ?_, fun hc => ?_⟩
        · have hlt : i < (cut 32 s).length := by
            have hc : Value.bool (decide ((i : Int) < ((cut 32 s).length : Int))) = .bool true := hc
            have := bt_of hc; omega
          have hx := List.getElem?_eq_getElem hlt
          have hw : IntKind.i64.wrap ((i : Int) + 1) = ((i + 1 : Nat) : Int) := by rw [wrap_in (by omega)]; omega
          have htk : (cut 32 s).take (i + 1) = (cut 32 s).take i ++ [(cut 32 s)[i]] := by rw [List.take_add_one, hx]; rfl
          have hwl := cut_len 32 s _ (List.getElem_mem hlt)
          have hsn := pcsW_snoc (w := (cut 32 s)[i]) (ws := (cut 32 s).take i)
          rw [hps] at hsn
          refine evs_step (need_step (all_cons (inb_true (c := rowS (cut 32 s)) (i := i) (n := 1) (by simp [rowS_cells]; omega)) all_nil) (call_step rfl ?_))
          refine ⟨(cut 32 s)[i], ?_, by omega, ?_⟩
          · show [(rowS (cut 32 s)).cells.getD (((i : Int)).toNat * 1 + 0) undef] = _
            rw [Int.toNat_natCast, rowS_get hx]
          rw [pieceW_same]
          cases hv : pieceW num (cut 32 s)[i] with
          | none =>
            intro k x c
            refine evs_nil (ite_t rfl ?_)
            refine hno ?_ _ _
            have : pcsW (cut 32 s) = none := pcsW_none hv (List.getElem_mem hlt)
            unfold benchW
            rw [if_neg hs, this]
          | some p =>
            obtain ⟨k, ns⟩ := p
            rw [hv] at hsn
            have hsn : pcsW ((cut 32 s).take i ++ [(cut 32 s)[i]]) = some (l.map Prod.fst ++ [⟨k, ns, (cut 32 s)[i]⟩]) := hsn
            intro a3 len3 cap3 hl3
            subst hl3
            refine evs_nil (ite_f rfl ?_)
            refine evs_step (app_step (xs := l.flatMap cL) (ys := cL (⟨k, ns, (cut 32 s)[i]⟩, .slice a3 ns.length cap3)) rfl rfl (by rw [flat_length (n := 2) (fun _ => rfl)]; simp [cL]; omega) fun a4 len4 cap4 _ hl4 => evs_nil ?_)
            have hl4 : len4 = i + 1 := by rw [flat_length (n := 2) (fun _ => rfl)] at hl4; simp [cL] at hl4; omega
            subst hl4
            refine ⟨⟨i + 1, a4, cap4, l ++ [(⟨k, ns, (cut 32 s)[i]⟩, .slice a3 ns.length cap3)], ?_, hlt, by rw [htk, hsn]; simp, fun p hp => ?_⟩, ?_⟩
            · rw [← rowL_snoc]
              show [Value.int .i64 (IntKind.i64.wrap ((i : Int) + 1)), .slice a4 (i + 1) cap4, Value.agg (l.flatMap cL ++ cL (⟨k, ns, (cut 32 s)[i]⟩, .slice a3 ns.length cap3)).toArray] = _
              rw [hw]
            · rcases List.mem_append.1 hp with hp | hp
              · exact hok p hp
              · rw [List.mem_singleton.1 hp]
                exact ⟨a3, cap3, rfl⟩
            · show (cut 32 s).length - (IntKind.i64.wrap ((i : Int) + 1)).toNat < (cut 32 s).length - ((i : Int)).toNat
              rw [hw, Int.toNat_natCast, Int.toNat_natCast]
              omega
        · have hge : i = (cut 32 s).length := by
            have hc : Value.bool (decide ((i : Int) < ((cut 32 s).length : Int))) = .bool false := hc
            have := bf_of hc; omega
          rw [hge, List.take_length] at hps
          show K [.slice a i cap, .bool (decide ((i : Int) ≤ 12)), rowL l]
          unfold benchW at hK
          rw [if_neg hs, hps] at hK
          dsimp only at hK
          rw [List.length_map, hnl] at hK
          by_cases h12 : i ≤ 12
          · rw [if_pos h12] at hK
            rw [decide_eq_true (by omega)]
            exact hK a i cap l rfl hok (by simp [hnl])
          · rw [if_neg h12] at hK
            rw [decide_eq_false (by omega)]
            exact hK _ _

def tr_readPiece : Tr :=
  (.ite (.seq (.var 0) (.val (.string ⟨#[]⟩)))
  (.ret [(.int .u8 0), (.val (.slice none 0 0)), (.var 0), (.bool false), (.val (.agg #[]))])
  (.evs [.need [(.bool true), (.cmp .lss (.int .i64 0) (.len (.var 0)))]]
   (.evs [.need [(.bool true), (.cmp .leq (.int .i64 1) (.len (.var 0))), (.cmp .leq (.len (.var 0)) (.len (.var 0)))],
     .call 0 [(.ssub (.var 0) (.int .i64 1) (.len (.var 0))), (.val (.string ⟨#[58]⟩))] none 2]
   (.lp 0 [(.int .i64 0), (.val (.slice none 0 0)), (.val (.agg #[]))] [.int .i64, .sl, .row .i64 1]
   (.ite (.cmp .lss (.var 3) (.len (.var 1)))
    (.evs [.need [(.inb (.var 2) (.var 3) 1)]]
     (.evs [.call 1 [(.sel (.var 2) (.var 3) 1 0)] none 2]
     (.ite (.not (.var 7))
     (.ret [(.sidx (.var 0) (.int .i64 0)), (.var 4), (.var 0), (.bool false), (.var 5)])
     (.evs [.app (.var 5) 1 (.cells [(.var 6)])]
      (.next 0 [(.ar .add .i64 (.var 3) (.int .i64 1)), (.var 8), (.var 9)])))))
    (.ite (.cmp .eql (.sidx (.var 0) (.int .i64 0)) (.int .u8 119))
     (.ite (.cmp .neq (.len (.var 4)) (.int .i64 3))
      (.ret [(.sidx (.var 0) (.int .i64 0)), (.var 4), (.var 0), (.bool false), (.var 5)])
      (.evs [.need [(.inb (.var 5) (.int .i64 0) 1), (.inb (.var 5) (.int .i64 1) 1)],
         .need [(.inb (.var 5) (.int .i64 0) 1), (.inb (.var 5) (.int .i64 1) 1)],
         .call 2 [(.sel (.var 5) (.int .i64 0) 1 0), (.sel (.var 5) (.int .i64 1) 1 0)] none 7]
       (.ite (.cmp .eql (.sidx (.var 0) (.int .i64 0)) (.int .u8 114))
       (.ite (.cmp .eql (.sidx (.var 0) (.int .i64 0)) (.int .u8 114))
        (.ret [(.sidx (.var 0) (.int .i64 0)), (.var 4), (.var 0), (.var 12), (.var 5)])
        (.ite (.cmp .eql (.sidx (.var 0) (.int .i64 0)) (.int .u8 119))
         (.evs [.need [(.ite (.var 12) (.inb (.var 5) (.int .i64 2) 1) (.bool true))],
            .need [(.ite (.var 12) (.inb (.var 5) (.int .i64 2) 1) (.bool true))],
            .call 3 [(.sel (.var 5) (.int .i64 2) 1 0), (.int .i64 0), (.int .i64 3)] (some (.var 12)) 1]
          (.ret [(.sidx (.var 0) (.int .i64 0)), (.var 4), (.var 0), (.ite (.var 12) (.var 13) (.bool false)), (.var 5)]))
         (.ite (.cmp .eql (.sidx (.var 0) (.int .i64 0)) (.int .u8 97))
          (.ite (.cmp .eql (.sidx (.var 0) (.int .i64 0)) (.int .u8 97))
           (.evs [.need [(.inb (.var 5) (.int .i64 1) 1)],
              .call 3 [(.sel (.var 5) (.int .i64 1) 1 0), (.int .i64 1), (.int .i64 100)] none 1,
              .need [(.ite (.var 13) (.inb (.var 5) (.int .i64 0) 1) (.bool true)), (.ite (.var 13) (.inb (.var 5) (.int .i64 1) 1) (.bool true))],
              .call 3 [(.sel (.var 5) (.int .i64 0) 1 0), (.int .i64 0), (.sel (.var 5) (.int .i64 1) 1 0)] (some (.var 13)) 1]
            (.ret [(.sidx (.var 0) (.int .i64 0)), (.var 4), (.var 0), (.ite (.var 13) (.var 14) (.bool false)), (.var 5)]))
           (.ret [(.sidx (.var 0) (.int .i64 0)), (.var 4), (.var 0), (.bool false), (.var 5)]))
          (.ite (.cmp .eql (.sidx (.var 0) (.int .i64 0)) (.int .u8 100))
           (.evs [.need [(.inb (.var 5) (.int .i64 1) 1)],
              .call 3 [(.sel (.var 5) (.int .i64 1) 1 0), (.int .i64 1), (.int .i64 100)] none 1,
              .need [(.ite (.var 13) (.inb (.var 5) (.int .i64 0) 1) (.bool true)), (.ite (.var 13) (.inb (.var 5) (.int .i64 1) 1) (.bool true))],
              .call 3 [(.sel (.var 5) (.int .i64 0) 1 0), (.int .i64 0), (.sel (.var 5) (.int .i64 1) 1 0)] (some (.var 13)) 1]
            (.ret [(.sidx (.var 0) (.int .i64 0)), (.var 4), (.var 0), (.ite (.var 13) (.var 14) (.bool false)), (.var 5)]))
           (.ret [(.sidx (.var 0) (.int .i64 0)), (.var 4), (.var 0), (.bool false), (.var 5)])))))
       (.ite (.cmp .eql (.sidx (.var 0) (.int .i64 0)) (.int .u8 102))
        (.ret [(.sidx (.var 0) (.int .i64 0)), (.var 4), (.var 0), (.var 12), (.var 5)])
        (.ite (.cmp .eql (.sidx (.var 0) (.int .i64 0)) (.int .u8 119))
         (.evs [.need [(.ite (.var 12) (.inb (.var 5) (.int .i64 2) 1) (.bool true))],
            .need [(.ite (.var 12) (.inb (.var 5) (.int .i64 2) 1) (.bool true))],
            .call 3 [(.sel (.var 5) (.int .i64 2) 1 0), (.int .i64 0), (.int .i64 3)] (some (.var 12)) 1]
          (.ret [(.sidx (.var 0) (.int .i64 0)), (.var 4), (.var 0), (.ite (.var 12) (.var 13) (.bool false)), (.var 5)]))
         (.ite (.cmp .eql (.sidx (.var 0) (.int .i64 0)) (.int .u8 97))
          (.ite (.cmp .eql (.sidx (.var 0) (.int .i64 0)) (.int .u8 97))
           (.evs [.need [(.inb (.var 5) (.int .i64 1) 1)],
              .call 3 [(.sel (.var 5) (.int .i64 1) 1 0), (.int .i64 1), (.int .i64 100)] none 1,
              .need [(.ite (.var 13) (.inb (.var 5) (.int .i64 0) 1) (.bool true)), (.ite (.var 13) (.inb (.var 5) (.int .i64 1) 1) (.bool true))],
              .call 3 [(.sel (.var 5) (.int .i64 0) 1 0), (.int .i64 0), (.sel (.var 5) (.int .i64 1) 1 0)] (some (.var 13)) 1]
            (.ret [(.sidx (.var 0) (.int .i64 0)), (.var 4), (.var 0), (.ite (.var 13) (.var 14) (.bool false)), (.var 5)]))
           (.ret [(.sidx (.var 0) (.int .i64 0)), (.var 4), (.var 0), (.bool false), (.var 5)]))
          (.ite (.cmp .eql (.sidx (.var 0) (.int .i64 0)) (.int .u8 100))
           (.evs [.need [(.inb (.var 5) (.int .i64 1) 1)],
              .call 3 [(.sel (.var 5) (.int .i64 1) 1 0), (.int .i64 1), (.int .i64 100)] none 1,
              .need [(.ite (.var 13) (.inb (.var 5) (.int .i64 0) 1) (.bool true)), (.ite (.var 13) (.inb (.var 5) (.int .i64 1) 1) (.bool true))],
              .call 3 [(.sel (.var 5) (.int .i64 0) 1 0), (.int .i64 0), (.sel (.var 5) (.int .i64 1) 1 0)] (some (.var 13)) 1]
            (.ret [(.sidx (.var 0) (.int .i64 0)), (.var 4), (.var 0), (.ite (.var 13) (.var 14) (.bool false)), (.var 5)]))
           (.ret [(.sidx (.var 0) (.int .i64 0)), (.var 4), (.var 0), (.bool false), (.var 5)]))))))))
     (.ite (.cmp .neq (.len (.var 4)) (.int .i64 2))
      (.ret [(.sidx (.var 0) (.int .i64 0)), (.var 4), (.var 0), (.bool false), (.var 5)])
      (.evs [.need [(.inb (.var 5) (.int .i64 0) 1), (.inb (.var 5) (.int .i64 1) 1)],
         .need [(.inb (.var 5) (.int .i64 0) 1), (.inb (.var 5) (.int .i64 1) 1)],
         .call 2 [(.sel (.var 5) (.int .i64 0) 1 0), (.sel (.var 5) (.int .i64 1) 1 0)] none 7]
       (.ite (.cmp .eql (.sidx (.var 0) (.int .i64 0)) (.int .u8 114))
       (.ite (.cmp .eql (.sidx (.var 0) (.int .i64 0)) (.int .u8 114))
        (.ret [(.sidx (.var 0) (.int .i64 0)), (.var 4), (.var 0), (.var 12), (.var 5)])
        (.ite (.cmp .eql (.sidx (.var 0) (.int .i64 0)) (.int .u8 119))
         (.evs [.need [(.ite (.var 12) (.inb (.var 5) (.int .i64 2) 1) (.bool true))],
            .need [(.ite (.var 12) (.inb (.var 5) (.int .i64 2) 1) (.bool true))],
            .call 3 [(.sel (.var 5) (.int .i64 2) 1 0), (.int .i64 0), (.int .i64 3)] (some (.var 12)) 1]
          (.ret [(.sidx (.var 0) (.int .i64 0)), (.var 4), (.var 0), (.ite (.var 12) (.var 13) (.bool false)), (.var 5)]))
         (.ite (.cmp .eql (.sidx (.var 0) (.int .i64 0)) (.int .u8 97))
          (.ite (.cmp .eql (.sidx (.var 0) (.int .i64 0)) (.int .u8 97))
           (.evs [.need [(.inb (.var 5) (.int .i64 1) 1)],
              .call 3 [(.sel (.var 5) (.int .i64 1) 1 0), (.int .i64 1), (.int .i64 100)] none 1,
              .need [(.ite (.var 13) (.inb (.var 5) (.int .i64 0) 1) (.bool true)), (.ite (.var 13) (.inb (.var 5) (.int .i64 1) 1) (.bool true))],
              .call 3 [(.sel (.var 5) (.int .i64 0) 1 0), (.int .i64 0), (.sel (.var 5) (.int .i64 1) 1 0)] (some (.var 13)) 1]
            (.ret [(.sidx (.var 0) (.int .i64 0)), (.var 4), (.var 0), (.ite (.var 13) (.var 14) (.bool false)), (.var 5)]))
           (.ret [(.sidx (.var 0) (.int .i64 0)), (.var 4), (.var 0), (.bool false), (.var 5)]))
          (.ite (.cmp .eql (.sidx (.var 0) (.int .i64 0)) (.int .u8 100))
           (.evs [.need [(.inb (.var 5) (.int .i64 1) 1)],
              .call 3 [(.sel (.var 5) (.int .i64 1) 1 0), (.int .i64 1), (.int .i64 100)] none 1,
              .need [(.ite (.var 13) (.inb (.var 5) (.int .i64 0) 1) (.bool true)), (.ite (.var 13) (.inb (.var 5) (.int .i64 1) 1) (.bool true))],
              .call 3 [(.sel (.var 5) (.int .i64 0) 1 0), (.int .i64 0), (.sel (.var 5) (.int .i64 1) 1 0)] (some (.var 13)) 1]
            (.ret [(.sidx (.var 0) (.int .i64 0)), (.var 4), (.var 0), (.ite (.var 13) (.var 14) (.bool false)), (.var 5)]))
           (.ret [(.sidx (.var 0) (.int .i64 0)), (.var 4), (.var 0), (.bool false), (.var 5)])))))
       (.ite (.cmp .eql (.sidx (.var 0) (.int .i64 0)) (.int .u8 102))
        (.ret [(.sidx (.var 0) (.int .i64 0)), (.var 4), (.var 0), (.var 12), (.var 5)])
        (.ite (.cmp .eql (.sidx (.var 0) (.int .i64 0)) (.int .u8 119))
         (.evs [.need [(.ite (.var 12) (.inb (.var 5) (.int .i64 2) 1) (.bool true))],
            .need [(.ite (.var 12) (.inb (.var 5) (.int .i64 2) 1) (.bool true))],
            .call 3 [(.sel (.var 5) (.int .i64 2) 1 0), (.int .i64 0), (.int .i64 3)] (some (.var 12)) 1]
          (.ret [(.sidx (.var 0) (.int .i64 0)), (.var 4), (.var 0), (.ite (.var 12) (.var 13) (.bool false)), (.var 5)]))
         (.ite (.cmp .eql (.sidx (.var 0) (.int .i64 0)) (.int .u8 97))
          (.ite (.cmp .eql (.sidx (.var 0) (.int .i64 0)) (.int .u8 97))
           (.evs [.need [(.inb (.var 5) (.int .i64 1) 1)],
              .call 3 [(.sel (.var 5) (.int .i64 1) 1 0), (.int .i64 1), (.int .i64 100)] none 1,
              .need [(.ite (.var 13) (.inb (.var 5) (.int .i64 0) 1) (.bool true)), (.ite (.var 13) (.inb (.var 5) (.int .i64 1) 1) (.bool true))],
              .call 3 [(.sel (.var 5) (.int .i64 0) 1 0), (.int .i64 0), (.sel (.var 5) (.int .i64 1) 1 0)] (some (.var 13)) 1]
            (.ret [(.sidx (.var 0) (.int .i64 0)), (.var 4), (.var 0), (.ite (.var 13) (.var 14) (.bool false)), (.var 5)]))
           (.ret [(.sidx (.var 0) (.int .i64 0)), (.var 4), (.var 0), (.bool false), (.var 5)]))
          (.ite (.cmp .eql (.sidx (.var 0) (.int .i64 0)) (.int .u8 100))
           (.evs [.need [(.inb (.var 5) (.int .i64 1) 1)],
              .call 3 [(.sel (.var 5) (.int .i64 1) 1 0), (.int .i64 1), (.int .i64 100)] none 1,
              .need [(.ite (.var 13) (.inb (.var 5) (.int .i64 0) 1) (.bool true)), (.ite (.var 13) (.inb (.var 5) (.int .i64 1) 1) (.bool true))],
              .call 3 [(.sel (.var 5) (.int .i64 0) 1 0), (.int .i64 0), (.sel (.var 5) (.int .i64 1) 1 0)] (some (.var 13)) 1]
            (.ret [(.sidx (.var 0) (.int .i64 0)), (.var 4), (.var 0), (.ite (.var 13) (.var 14) (.bool false)), (.var 5)]))
           (.ret [(.sidx (.var 0) (.int .i64 0)), (.var 4), (.var 0), (.bool false), (.var 5)]))))))))))))))
def Ss_readPiece : List Spec := [SP_Split, SP_plainNumber, G_direction.spec, G_within.spec]
def SP_readPiece : Spec := SP_rp
set_option maxHeartbeats 2000000 in
theorem sat_readPiece (P : Program) (ins : List Value) (K : List Value → Prop) (_ : TypedL [.str] ins) (h : SP_readPiece ins K) : sat P Ss_readPiece tr_readPiece ins [] K := by
  obtain ⟨s, rfl, hl, hK⟩ := h
  have hlen : lenV (bv s) = (s.length : Int) := len_bv s
  have hno : pieceW num s = none → ∀ k x t c, K [k, x, t, .bool false, c] := by
    intro hn
    rw [hn] at hK
    exact hK
  refine ⟨fun hc => ?_, fun hc => ?_⟩
  · have hc : Value.bool ((strV (bv s)).toList == (strV (bv [])).toList) = .bool true := hc
    rw [seq_bv] at hc
    have hs := bt_of hc
    subst hs
    exact hno rfl _ _ _ _
  · have hc : Value.bool ((strV (bv s)).toList == (strV (bv [])).toList) = .bool false := hc
    rw [seq_bv] at hc
    have hs := bf_of hc
    obtain ⟨k, r, rfl⟩ : ∃ k r, s = k :: r := by
      cases s with
      | nil => exact absurd rfl hs
      | cons k r => exact ⟨k, r, rfl⟩
    have h0l : Value.bool (decide (0 < lenV (bv (k :: r)))) = .bool true := by
      rw [hlen]
      exact bt (by simp only [List.length_cons]; omega)
    refine evs_step (need_step (all_cons rfl (all_cons h0l all_nil)) (evs_nil ?_))
    refine evs_step (need_step (all_cons rfl (all_cons ?_ (all_cons ?_ all_nil))) (call_step rfl ?_))
    · show Value.bool (decide (1 ≤ lenV (bv (k :: r)))) = _
      rw [hlen]
      exact bt (by simp only [List.length_cons]; omega)
    · show Value.bool (decide (lenV (bv (k :: r)) ≤ lenV (bv (k :: r)))) = _
      exact bt (Int.le_refl _)
    · refine ⟨r, 58, ?_, by simp at hl; omega, fun a2 len2 cap2 hl2 => evs_nil ?_⟩
      · show [Value.string ((strV (bv (k :: r))).extract 1 (lenV (bv (k :: r))).toNat), bv [58]] = _
        rw [extract_bv, hlen]
        simp
      subst hl2
      refine ⟨fun vs => ∃ (i : Nat) (a : Option Addr) (cap : Nat) (ns : List Int), vs = [.int .i64 i, .slice a i cap, rowI ns] ∧ i ≤ (cut 58 r).length ∧ numsW num ((cut 58 r).take i) = some ns, fun vs => (cut 58 r).length - (toI (vs.getD 0 undef)).toNat, ?_, ?_⟩
      · exact ⟨0, none, 0, [], rfl, Nat.zero_le _, rfl⟩
      · rintro vs hty ⟨i, a, cap, ns, rfl, hi, hns⟩
        have hnl : ns.length = i := by
          rw [numsW_length hns]; simp; omega
        have hcc := cut_count 58 r
        refine ⟨fun hc => ?_, fun hc => ?_⟩
        · have hlt : i < (cut 58 r).length := by
            have hc : Value.bool (decide ((i : Int) < ((cut 58 r).length : Int))) = .bool true := hc
            have := bt_of hc; omega
          have hx := List.getElem?_eq_getElem hlt
          have hw : IntKind.i64.wrap ((i : Int) + 1) = ((i + 1 : Nat) : Int) := by rw [wrap_in (by simp at hl; omega)]; omega
          have htk : (cut 58 r).take (i + 1) = (cut 58 r).take i ++ [(cut 58 r)[i]] := by rw [List.take_add_one, hx]; rfl
          have hwl := cut_len 58 r _ (List.getElem_mem hlt)
          have hsn := numsW_snoc (nm := num) (w := (cut 58 r)[i]) (ws := (cut 58 r).take i)
          rw [hns] at hsn
          refine evs_step (need_step (all_cons (inb_true (c := rowS (cut 58 r)) (i := i) (n := 1) (by simp [rowS_cells]; omega)) all_nil) (evs_nil ?_))
          refine evs_step (call_step rfl ?_)
          refine ⟨(cut 58 r)[i], ?_, by simp at hl; omega, ?_⟩
          · show [(rowS (cut 58 r)).cells.getD (((i : Int)).toNat * 1 + 0) undef] = _
            rw [Int.toNat_natCast, rowS_get hx]
          cases hv : num (cut 58 r)[i] with
          | none =>
            intro z _
            refine evs_nil (ite_t rfl ?_)
            refine hno ?_ _ _ _ _
            have : numsW num (cut 58 r) = none := numsW_none hv (List.getElem_mem hlt)
            simp only [pieceW, this]
          | some n =>
            rw [hv] at hsn
            have hsn : numsW num ((cut 58 r).take i ++ [(cut 58 r)[i]]) = some (ns ++ [n]) := hsn
            refine evs_nil (ite_f rfl ?_)
            refine evs_step (app_step (xs := intVals ns) (ys := [.int .i64 n]) rfl rfl (by rw [intVals_map]; simp; simp at hl; omega) fun a3 len3 cap3 _ hl3 => evs_nil ?_)
            have hl3 : len3 = i + 1 := by rw [intVals_map] at hl3; simp at hl3; omega
            subst hl3
            refine ⟨⟨i + 1, a3, cap3, ns ++ [n], ?_, hlt, by rw [htk]; exact hsn⟩, ?_⟩
            · rw [← rowI_snoc]
              show [Value.int .i64 (IntKind.i64.wrap ((i : Int) + 1)), .slice a3 (i + 1) cap3, Value.agg (intVals ns ++ [Value.int .i64 n]).toArray] = _
              rw [hw]
            · show (cut 58 r).length - (IntKind.i64.wrap ((i : Int) + 1)).toNat < (cut 58 r).length - ((i : Int)).toNat
              rw [hw, Int.toNat_natCast, Int.toNat_natCast]
              omega
        · have hge : i = (cut 58 r).length := by
            have hc : Value.bool (decide ((i : Int) < ((cut 58 r).length : Int))) = .bool false := hc
            have := bf_of hc; omega
          have hns2 : numsW num (cut 58 r) = some ns := by
            rw [← hns, hge, List.take_length]
          have hdone : ∀ b, okPiece k ns = b → K [u8 k, .slice a i cap, bv (k :: r), .bool b, rowI ns] := by
            intro b hb
            simp only [pieceW, hns2, hb] at hK
            cases b with
            | true => exact hK a i cap hnl.symm
            | false => exact hK _ _ _ _
          clear hK hno hc hty hns hns2 hge hcc hi
          subst hnl
          have hneq : ∀ m : Nat, Value.bool ((ns.length : Int) != (m : Int)) = .bool (decide (ns.length ≠ m)) := by
            intro m
            congr 1
            by_cases e : ns.length = m
            · simp [e]
            · simp [e]; omega
          rcases k_cases k with rfl | rfl | rfl | rfl | rfl | ⟨k1, k2, k3, k4, k5⟩
          · refine ite_f rfl ?_
            by_cases h2 : ns.length = 2
            · obtain ⟨p, q, rfl⟩ := two_list h2
              refine ite_f rfl (evs_step (need_step (all_cons rfl (all_cons rfl all_nil)) (need_step (all_cons rfl (all_cons rfl all_nil)) (call_step rfl ⟨trivial, evs_nil ?_⟩))))
              refine ite_t rfl (ite_t rfl ?_)
              exact hdone (dirOk p q) rfl
            · exact ite_t ((hneq 2).trans (bt h2)) (hdone false (ok_len2 (by simp) h2))
          · refine ite_f rfl ?_
            by_cases h2 : ns.length = 2
            · obtain ⟨p, q, rfl⟩ := two_list h2
              refine ite_f rfl (evs_step (need_step (all_cons rfl (all_cons rfl all_nil)) (need_step (all_cons rfl (all_cons rfl all_nil)) (call_step rfl ⟨trivial, evs_nil ?_⟩))))
              refine ite_f rfl (ite_t rfl ?_)
              exact hdone (dirOk p q) rfl
            · exact ite_t ((hneq 2).trans (bt h2)) (hdone false (ok_len2 (by simp) h2))
          · refine ite_t rfl ?_
            by_cases h3 : ns.length = 3
            · obtain ⟨p, q, t, rfl⟩ := three_list h3
              refine ite_f rfl (evs_step (need_step (all_cons rfl (all_cons rfl all_nil)) (need_step (all_cons rfl (all_cons rfl all_nil)) (call_step rfl ⟨trivial, evs_nil ?_⟩))))
              refine ite_f rfl (ite_f rfl (ite_t rfl ?_))
              refine evs_step (need_step (all_cons (need_if fun _ => rfl) all_nil) (need_step (all_cons (need_if fun _ => rfl) all_nil) (callg_step rfl (fun hg => ⟨trivial, evs_nil ?_⟩) (fun hg => evs_nil ?_))))
              · have hg : dirOk p q = true := hg
                have := hdone (dirOk p q && inRg t 0 3) rfl
                rw [hg, Bool.true_and] at this
                show K [_, _, _, (if toB (Value.bool (dirOk p q)) = true then Value.bool (inRg t 0 3) else Value.bool false), _]
                rw [hg]
                exact this
              · have hg : dirOk p q = false := hg
                have := hdone (dirOk p q && inRg t 0 3) rfl
                rw [hg, Bool.false_and] at this
                show K [_, _, _, (if toB (Value.bool (dirOk p q)) = true then _ else Value.bool false), _]
                rw [hg]
                exact this
            · exact ite_t ((hneq 3).trans (bt h3)) (hdone false (ok_len3 h3))
          · refine ite_f rfl ?_
            by_cases h2 : ns.length = 2
            · obtain ⟨n, d, rfl⟩ := two_list h2
              refine ite_f rfl (evs_step (need_step (all_cons rfl (all_cons rfl all_nil)) (need_step (all_cons rfl (all_cons rfl all_nil)) (call_step rfl ⟨trivial, evs_nil ?_⟩))))
              refine ite_f rfl (ite_f rfl (ite_f rfl (ite_t rfl (ite_t rfl ?_))))
              refine evs_step (need_step (all_cons rfl all_nil) (call_step rfl ⟨trivial, ?_⟩))
              refine need_step (all_cons (need_if fun _ => rfl) (all_cons (need_if fun _ => rfl) all_nil)) (callg_step rfl (fun hg => ⟨trivial, evs_nil ?_⟩) (fun hg => evs_nil ?_))
              · have hg : inRg d 1 100 = true := hg
                have := hdone (inRg d 1 100 && inRg n 0 d) rfl
                rw [hg, Bool.true_and] at this
                show K [_, _, _, (if toB (Value.bool (inRg d 1 100)) = true then Value.bool (inRg n 0 d) else Value.bool false), _]
                rw [hg]
                exact this
              · have hg : inRg d 1 100 = false := hg
                have := hdone (inRg d 1 100 && inRg n 0 d) rfl
                rw [hg, Bool.false_and] at this
                show K [_, _, _, (if toB (Value.bool (inRg d 1 100)) = true then _ else Value.bool false), _]
                rw [hg]
                exact this
            · exact ite_t ((hneq 2).trans (bt h2)) (hdone false (ok_len2 (by simp) h2))
          · refine ite_f rfl ?_
            by_cases h2 : ns.length = 2
            · obtain ⟨n, d, rfl⟩ := two_list h2
              refine ite_f rfl (evs_step (need_step (all_cons rfl (all_cons rfl all_nil)) (need_step (all_cons rfl (all_cons rfl all_nil)) (call_step rfl ⟨trivial, evs_nil ?_⟩))))
              refine ite_f rfl (ite_f rfl (ite_f rfl (ite_f rfl (ite_t rfl ?_))))
              refine evs_step (need_step (all_cons rfl all_nil) (call_step rfl ⟨trivial, ?_⟩))
              refine need_step (all_cons (need_if fun _ => rfl) (all_cons (need_if fun _ => rfl) all_nil)) (callg_step rfl (fun hg => ⟨trivial, evs_nil ?_⟩) (fun hg => evs_nil ?_))
              · have hg : inRg d 1 100 = true := hg
                have := hdone (inRg d 1 100 && inRg n 0 d) rfl
                rw [hg, Bool.true_and] at this
                show K [_, _, _, (if toB (Value.bool (inRg d 1 100)) = true then Value.bool (inRg n 0 d) else Value.bool false), _]
                rw [hg]
                exact this
              · have hg : inRg d 1 100 = false := hg
                have := hdone (inRg d 1 100 && inRg n 0 d) rfl
                rw [hg, Bool.false_and] at this
                show K [_, _, _, (if toB (Value.bool (inRg d 1 100)) = true then _ else Value.bool false), _]
                rw [hg]
                exact this
            · exact ite_t ((hneq 2).trans (bt h2)) (hdone false (ok_len2 (by simp) h2))
          · refine ite_f (beq_f k3) ?_
            by_cases h2 : ns.length = 2
            · obtain ⟨p, q, rfl⟩ := two_list h2
              refine ite_f rfl (evs_step (need_step (all_cons rfl (all_cons rfl all_nil)) (need_step (all_cons rfl (all_cons rfl all_nil)) (call_step rfl ⟨trivial, evs_nil ?_⟩))))
              exact ite_f (beq_f k1) (ite_f (beq_f k2) (ite_f (beq_f k3) (ite_f (beq_f k4) (ite_f (beq_f k5) (hdone false (ok_other k1 k2 k3 k4 k5))))))
            · exact ite_t ((hneq 2).trans (bt h2)) (hdone false (ok_other k1 k2 k3 k4 k5))

def tr_readBench : Tr :=
  (.evs [.app (.val (.agg #[])) 3 (.cells [])]
  (.ite (.seq (.var 0) (.val (.string ⟨#[]⟩)))
  (.ret [(.var 1), (.bool true), (.val (.agg #[]))])
  (.evs [.call 0 [(.var 0), (.val (.string ⟨#[32]⟩))] none 2]
   (.lp 0 [(.int .i64 0), (.var 1), (.val (.agg #[]))] [.int .i64, .sl, .rowC [.int .u8, .fat .i64 1, .str]]
   (.ite (.cmp .lss (.var 5) (.len (.var 3)))
    (.evs [.need [(.inb (.var 4) (.var 5) 1)]]
     (.evs [.call 1 [(.sel (.var 4) (.var 5) 1 0)] none 5]
     (.ite (.ite (.not (.var 11)) (.bool true) (.cmp .eql (.len (.var 6)) (.int .i64 12)))
     (.ret [(.val (.slice none 0 0)), (.bool false), (.val (.agg #[]))])
     (.evs [.app (.var 7) 3 (.cells [(.var 8), (.fat (.var 9) (.var 12)), (.var 10)])]
      (.next 0 [(.ar .add .i64 (.var 5) (.int .i64 1)), (.var 13), (.var 14)])))))
    (.ret [(.var 6), (.bool true), (.var 7)]))))))
def Ss_readBench : List Spec := [SP_Split, SP_readPiece]
def SP_readBench : Spec := SP_ib
set_option maxHeartbeats 1000000 in
theorem sat_readBench (P : Program) (ins : List Value) (K : List Value → Prop) (_ : TypedL [.str] ins) (h : SP_readBench ins K) : sat P Ss_readBench tr_readBench ins [] K := by
  obtain ⟨s, rfl, hl, hK⟩ := h
  have hno : benchW s = none → K [.slice none 0 0, .bool false, .agg #[]] := by
    intro hn
    rw [hn] at hK
    exact hK
  refine evs_step (app_empty (by omega) fun a1 cap1 => evs_nil ?_)
  refine ⟨fun hc => ?_, fun hc => ?_⟩
  · have hc : Value.bool ((strV (bv s)).toList == (strV (bv [])).toList) = .bool true := hc
    rw [seq_bv] at hc
    have hs := bt_of hc
    subst hs
    exact hK a1 0 cap1 [] rfl (fun p hp => by cases hp) rfl
  · have hc : Value.bool ((strV (bv s)).toList == (strV (bv [])).toList) = .bool false := hc
    rw [seq_bv] at hc
    have hs := bf_of hc
    clear hc
    refine evs_step (call_step rfl ⟨s, 32, rfl, hl, fun a2 len2 cap2 hl2 => evs_nil ?_⟩)
    subst hl2
    have hcc := cut_count 32 s
    refine ⟨fun vs => ∃ (i : Nat) (a : Option Addr) (cap : Nat) (l : List PV), vs = [.int .i64 i, .slice a i cap, rowB l] ∧ i ≤ (cut 32 s).length ∧ i ≤ 12 ∧ pcsW ((cut 32 s).take i) = some (l.map Prod.fst) ∧ (∀ p ∈ l, SlOk p), fun vs => (cut 32 s).length - (toI (vs.getD 0 undef)).toNat, ?_, ?_⟩
    · exact ⟨0, a1, cap1, [], rfl, Nat.zero_le _, Nat.zero_le _, rfl, fun p hp => by cases hp⟩
    · rintro vs hty ⟨i, a, cap, l, rfl, hi, h12, hps, hok⟩
      have hnl : l.length = i := by
        have := (pcsW_length hps).1
        simp at this; omega
      refine ⟨fun hc => ?_, fun hc => ?_⟩
      · have hlt : i < (cut 32 s).length := by
          have hc : Value.bool (decide ((i : Int) < ((cut 32 s).length : Int))) = .bool true := hc
          have := bt_of hc; omega
        have hx := List.getElem?_eq_getElem hlt
        have hw : IntKind.i64.wrap ((i : Int) + 1) = ((i + 1 : Nat) : Int) := by rw [wrap_in (by omega)]; omega
        have htk : (cut 32 s).take (i + 1) = (cut 32 s).take i ++ [(cut 32 s)[i]] := by rw [List.take_add_one, hx]; rfl
        have hwl := cut_len 32 s _ (List.getElem_mem hlt)
        have hsn := pcsW_snoc (w := (cut 32 s)[i]) (ws := (cut 32 s).take i)
        rw [hps] at hsn
        refine evs_step (need_step (all_cons (inb_true (c := rowS (cut 32 s)) (i := i) (n := 1) (by simp [rowS_cells]; omega)) all_nil) (evs_nil ?_))
        refine evs_step (call_step rfl ?_)
        refine ⟨(cut 32 s)[i], ?_, by omega, ?_⟩
        · show [(rowS (cut 32 s)).cells.getD (((i : Int)).toNat * 1 + 0) undef] = _
          rw [Int.toNat_natCast, rowS_get hx]
        cases hv : pieceW num (cut 32 s)[i] with
        | none =>
          intro k x t c
          refine evs_nil (ite_t rfl ?_)
          refine hno ?_
          have : pcsW (cut 32 s) = none := pcsW_none hv (List.getElem_mem hlt)
          unfold benchW
          rw [if_neg hs, this]
        | some p =>
          obtain ⟨k, ns⟩ := p
          rw [hv] at hsn
          have hsn : pcsW ((cut 32 s).take i ++ [(cut 32 s)[i]]) = some (l.map Prod.fst ++ [⟨k, ns, (cut 32 s)[i]⟩]) := hsn
          intro a3 len3 cap3 hl3
          subst hl3
          refine evs_nil ?_
          by_cases hfull : i = 12
          · refine ite_t ?_ (hno ?_)
            · show (if toB (Value.bool (!true)) = true then Value.bool true else Value.bool ((i : Int) == 12)) = _
              rw [hfull]; rfl
            · unfold benchW
              rw [if_neg hs]
              cases hq : pcsW (cut 32 s) with
              | none => rfl
              | some q =>
                have := (pcsW_length hq).1
                dsimp only
                rw [if_neg (by omega)]
          · refine ite_f ?_ ?_
            · show (if toB (Value.bool (!true)) = true then Value.bool true else Value.bool ((i : Int) == 12)) = _
              rw [if_neg (by simp)]
              congr 1
              rw [beq_eq_false_iff_ne]
              omega
            refine evs_step (app_step (xs := l.flatMap cB) (ys := cB (⟨k, ns, (cut 32 s)[i]⟩, .slice a3 ns.length cap3)) rfl rfl (by rw [flat_length (n := 3) (fun _ => rfl)]; simp [cB]; omega) fun a4 len4 cap4 _ hl4 => evs_nil ?_)
            have hl4 : len4 = i + 1 := by rw [flat_length (n := 3) (fun _ => rfl)] at hl4; simp [cB] at hl4; omega
            subst hl4
            refine ⟨⟨i + 1, a4, cap4, l ++ [(⟨k, ns, (cut 32 s)[i]⟩, .slice a3 ns.length cap3)], ?_, hlt, by omega, by rw [htk, hsn]; simp, fun p hp => ?_⟩, ?_⟩
            · rw [← rowB_snoc]
              show [Value.int .i64 (IntKind.i64.wrap ((i : Int) + 1)), .slice a4 (i + 1) cap4, Value.agg (l.flatMap cB ++ cB (⟨k, ns, (cut 32 s)[i]⟩, .slice a3 ns.length cap3)).toArray] = _
              rw [hw]
            · rcases List.mem_append.1 hp with hp | hp
              · exact hok p hp
              · rw [List.mem_singleton.1 hp]
                exact ⟨a3, cap3, rfl⟩
            · show (cut 32 s).length - (IntKind.i64.wrap ((i : Int) + 1)).toNat < (cut 32 s).length - ((i : Int)).toNat
              rw [hw, Int.toNat_natCast, Int.toNat_natCast]
              omega
      · have hge : i = (cut 32 s).length := by
          have hc : Value.bool (decide ((i : Int) < ((cut 32 s).length : Int))) = .bool false := hc
          have := bf_of hc; omega
        rw [hge, List.take_length] at hps
        unfold benchW at hK
        rw [if_neg hs, hps] at hK
        dsimp only at hK
        rw [List.length_map, hnl, if_pos h12] at hK
        exact hK a i cap l rfl hok (by simp [hnl])

def tr_writeBenchS : Tr :=
  (.evs [.app (.val (.agg #[])) 1 (.cells [])]
  (.lp 0 [(.int .i64 0), (.var 2), (.val (.agg #[]))] [.int .i64, .sl, .rowC [.str]]
  (.ite (.cmp .lss (.var 4) (.len (.var 0)))
   (.evs [.need [(.inb (.var 1) (.var 4) 3)]]
    (.evs [.app (.var 6) 1 (.cells [(.sel (.var 1) (.var 4) 3 2)])]
    (.next 0 [(.ar .add .i64 (.var 4) (.int .i64 1)), (.var 7), (.var 8)])))
   (.evs [.call 0 [(.var 5), (.val (.string ⟨#[32]⟩)), (.var 6)] none 1]
    (.ret [(.var 7)])))))
def Ss_writeBenchS : List Spec := [SP_Join]
-- part wr
def wrTree : Tr :=
  (.evs [.app (.val (.agg #[])) 1 (.cells [])]
  (.lp 0 [(.int .i64 0), (.var 2), (.val (.agg #[]))] [.int .i64, .sl, .rowC [.str]]
  (.ite (.cmp .lss (.var 4) (.len (.var 0)))
   (.evs [.need [(.inb (.var 1) (.var 4) 3)]]
    (.evs [.app (.var 6) 1 (.cells [(.sel (.var 1) (.var 4) 3 2)])]
    (.next 0 [(.ar .add .i64 (.var 4) (.int .i64 1)), (.var 7), (.var 8)])))
   (.evs [.call 0 [(.var 5), (.val (.string ⟨#[32]⟩)), (.var 6)] none 1]
    (.ret [(.var 7)])))))
theorem wr_sat (P : Program) {a0 : Option Addr} {cap0 : Nat} {l : List PV} {R : Value} {K : List Value → Prop} (hsz : R.cells.size = l.length * 3) (hget : ∀ i p, l[i]? = some p → R.cells.getD (i * 3 + 2) undef = bv p.1.t)
    (hl : l.length ≤ 1048576) (hj : (joinB 32 (l.map fun p : PV => p.1.t)).length ≤ 1099511627776) (hK : K [bv (joinB 32 (l.map fun p : PV => p.1.t))]) : sat P [SP_join] wrTree [.slice a0 l.length cap0, R] [] K := by
  refine evs_step (app_stepC (xs := []) (ys := []) rfl rfl (by simp) fun a2 len2 cap2 _ hcap2 hl2 => evs_nil ?_)
  have hl0 : len2 = 0 := by simpa using hl2
  subst hl0
  refine ⟨fun vs => ∃ (i : Nat) (a : Option Addr) (cap : Nat), vs = [.int .i64 i, .slice a i cap, rowS ((l.take i).map fun p : PV => p.1.t)] ∧ i ≤ l.length ∧ i ≤ cap, fun vs => l.length - (toI (vs.getD 0 undef)).toNat, ?_, ?_⟩
  · exact ⟨0, a2, cap2, rfl, Nat.zero_le _, Nat.zero_le _⟩
  · rintro vs hty ⟨i, a, cap, rfl, hi, hcap⟩
    refine ⟨fun hc => ?_, fun hc => ?_⟩
    · have hlt : i < l.length := by
        have hc : Value.bool (decide ((i : Int) < (l.length : Int))) = .bool true := hc
        have := bt_of hc; omega
      have hw : IntKind.i64.wrap ((i : Int) + 1) = ((i + 1 : Nat) : Int) := by rw [wrap_in (by omega)]; omega
      have hp := List.getElem?_eq_getElem hlt
      refine evs_step (need_step (all_cons (inb_true (c := R) (i := i) (n := 3) (by rw [hsz]; omega)) all_nil) (evs_nil ?_))
      refine evs_step (app_stepC (xs := ((l.take i).map fun p : PV => p.1.t).map bv) (ys := [bv l[i].1.t]) rfl ?_ (by simp; omega) fun a3 len3 cap3 _ hcap3 hl3 => evs_nil ?_)
      · show [R.cells.getD (((i : Int)).toNat * 3 + 2) undef] = _
        rw [Int.toNat_natCast, hget i _ hp]
      · have hl3 : len3 = i + 1 := by simp at hl3; omega
        subst hl3
        have ht : (l.take (i + 1)).map (fun p : PV => p.1.t) = (l.take i).map (fun p : PV => p.1.t) ++ [l[i].1.t] := by
          rw [List.take_add_one, hp, List.map_append]; rfl
        refine ⟨⟨i + 1, a3, cap3, ?_, hlt, hcap3⟩, ?_⟩
        · rw [ht, ← rowS_snoc]
          show [Value.int .i64 (IntKind.i64.wrap ((i : Int) + 1)), .slice a3 (i + 1) cap3, Value.agg (((l.take i).map fun p : PV => p.1.t).map bv ++ [bv l[i].1.t]).toArray] = _
          rw [hw]
        · show l.length - (IntKind.i64.wrap ((i : Int) + 1)).toNat < l.length - ((i : Int)).toNat
          rw [hw]; omega
    · have hge : i = l.length := by
        have hc : Value.bool (decide ((i : Int) < (l.length : Int))) = .bool false := hc
        have := bf_of hc; omega
      subst hge
      refine evs_step (call_step rfl ?_)
      refine ⟨l.map fun p : PV => p.1.t, 32, a, cap, ?_, by simpa using hcap, by simpa using hl, hj, evs_nil hK⟩
      show [Value.slice a l.length cap, bv [32], rowS ((l.take l.length).map fun p : PV => p.1.t)] = _
      rw [List.take_length, List.length_map]
def SP_writeBenchS : Spec := SP_wrS
theorem sat_writeBenchS (P : Program) (ins : List Value) (K : List Value → Prop) (_ : TypedL [.sl, .rowC [.int .u8, .sl, .str]] ins) (h : SP_writeBenchS ins K) : sat P Ss_writeBenchS tr_writeBenchS ins [] K := by
  obtain ⟨a, cap, l, rfl, hl, hj, hK⟩ := h
  exact wr_sat P (rowRv_size l) (fun i p hp => rowRv_get hp (by omega) rfl) hl hj hK

def tr_revP : Tr :=
  (.evs [.app (.val (.agg #[])) 3 (.cells [])]
  (.lp 0 [(.ar .sub .i64 (.len (.var 0)) (.int .i64 1)), (.var 2), (.val (.agg #[]))] [.int .i64, .sl, .rowC [.int .u8, .sl, .str]]
  (.ite (.cmp .geq (.var 4) (.int .i64 0))
   (.evs [.need [(.inb (.var 1) (.var 4) 3)],
      .app (.var 6) 3 (.cells [(.sel (.var 1) (.var 4) 3 0), (.hd (.sel (.var 1) (.var 4) 3 1)), (.sel (.var 1) (.var 4) 3 2)])]
    (.next 0 [(.ar .sub .i64 (.var 4) (.int .i64 1)), (.var 7), (.var 8)]))
   (.ret [(.var 5), (.var 6)]))))
def Fs_revP : List Fun1 := []

theorem sat_revP (P : Program) (ins : List Value) (K : List Value → Prop) (_ : TypedL [.sl, .rowC [.int .u8, .fat .i64 1, .str]] ins) (h : SP_revP ins K) : sat P (specsOf Fs_revP) tr_revP ins [] K := by
  obtain ⟨a0, cap0, l, rfl, hl, hK⟩ := h
  refine evs_step (app_empty (by omega) fun a2 cap2 => evs_nil ?_)
  refine ⟨fun vs => ∃ (k : Nat) (a : Option Addr) (cap : Nat), vs = [.int .i64 ((k : Int) - 1), .slice a (l.length - k) cap, rowRv (l.drop k).reverse] ∧ k ≤ l.length, fun vs => (toI (vs.getD 0 undef) + 1).toNat, ?_, ?_⟩
  · refine ⟨l.length, a2, cap2, ?_, Nat.le_refl _⟩
    rw [Nat.sub_self, List.drop_length]
    show [Value.int .i64 (IntKind.i64.wrap ((l.length : Int) - 1)), .slice a2 0 cap2, .agg #[]] = _
    rw [wrap_in (by omega)]
    rfl
  · rintro vs hty ⟨k, a, cap, rfl, hk⟩
    refine ⟨fun hc => ?_, fun hc => ?_⟩
    · have hk1 : 0 < k := by
        have hc : Value.bool (decide ((k : Int) - 1 ≥ 0)) = .bool true := hc
        have := bt_of hc; omega
      obtain ⟨i, rfl⟩ : ∃ i, k = i + 1 := ⟨k - 1, by omega⟩
      have ek : ((i + 1 : Nat) : Int) - 1 = (i : Int) := by omega
      rw [ek] at hty ⊢
      have hlt : i < l.length := by omega
      have hp := List.getElem?_eq_getElem hlt
      have hw : IntKind.i64.wrap ((i : Int) - 1) = (i : Int) - 1 := wrap_in (by omega)
      refine evs_step (need_step (all_cons (inb_true (c := rowB l) (i := i) (n := 3) (by rw [rowB_size]; omega)) all_nil) ?_)
      have hv : ∀ j v, j < 3 → (cB l[i])[j]? = some v → (rowB l).cells.getD (((i : Int)).toNat * 3 + j) undef = v := fun j v hj hv => by rw [Int.toNat_natCast]; exact rowB_get hp hj hv
      refine app_step (xs := ((l.drop (i + 1)).reverse.flatMap cR)) (ys := cR l[i]) rfl ?_ (by rw [flat_length (n := 3) (fun _ => rfl)]; simp [cR]; omega) fun a3 len3 cap3 _ hl3 => evs_nil ?_
      · show [(rowB l).cells.getD (((i : Int)).toNat * 3 + 0) undef, hdV ((rowB l).cells.getD (((i : Int)).toNat * 3 + 1) undef), (rowB l).cells.getD (((i : Int)).toNat * 3 + 2) undef] = _
        rw [hv 0 _ (by omega) rfl, hv 1 _ (by omega) rfl, hv 2 _ (by omega) rfl]
        rfl
      · have hl3 : len3 = l.length - i := by
          rw [flat_length (n := 3) (fun _ => rfl)] at hl3
          simp [cR] at hl3; omega
        subst hl3
        have hd : (l.drop i).reverse = (l.drop (i + 1)).reverse ++ [l[i]] := by
          rw [List.drop_eq_getElem_cons hlt, List.reverse_cons]
        refine ⟨⟨i, a3, cap3, ?_, by omega⟩, ?_⟩
        · rw [hd, ← rowRv_snoc]
          show [Value.int .i64 (IntKind.i64.wrap ((i : Int) - 1)), .slice a3 (l.length - i) cap3, Value.agg ((l.drop (i + 1)).reverse.flatMap cR ++ cR l[i]).toArray] = _
          rw [hw]
        · show (IntKind.i64.wrap ((i : Int) - 1) + 1).toNat < ((i : Int) + 1).toNat
          rw [hw]; omega
    · have hk0 : k = 0 := by
        have hc : Value.bool (decide ((k : Int) - 1 ≥ 0)) = .bool false := hc
        have := bf_of hc; omega
      subst hk0
      have := hK a cap
      rw [← List.drop_zero (l := l)]
      exact this

def tr_sBenchValid : Tr :=
  (.evs [.call 0 [(.var 0)] none 3]
  (.ret [(.var 2)]))
def Ss_sBenchValid : List Spec := [SP_l7Bench]
-- part bv
/-- Two benches joined: the text, and whether. -/
def joinV (a b : List UInt8) : List UInt8 × Bool := match benchW a, benchW b with
  | some x, some y => if (x ++ y).length ≤ 12 then (joinTwo a b, true) else ([], false)
  | _, _ => ([], false)
theorem joinV_eq (a b : List UInt8) : joinV a b = if ((benchW a).isSome && ((benchW b).isSome && (benchW (joinTwo a b)).isSome)) = true then (joinTwo a b, true) else ([], false) := by
  unfold joinV
  cases ha : benchW a with
  | none => rfl
  | some x =>
    cases hb : benchW b with
    | none => rfl
    | some y =>
      rw [benchW_joined ha hb]
      dsimp only
      by_cases h : (x ++ y).length ≤ 12
      · rw [if_pos h, if_pos h]; rfl
      · rw [if_neg h, if_neg h]; rfl
def backV (s : List UInt8) : List UInt8 × Bool := match benchW s with
  | some ps => (joinB 32 (ps.reverse.map Pc.t), true)
  | none => ([], false)
def piecesV (s : List UInt8) : Int := match benchW s with
  | some ps => ps.length
  | none => -1
def headV (p q : Int) : List UInt8 := 114 :: (Lib.itoa p ++ 58 :: Lib.itoa q)
def turnedV (s : List UInt8) (p q : Int) : List UInt8 × Bool :=
  if dirOk p q = true then
    (if (joinV (headV p (-q)) s).2 = true then joinV (joinV (headV p (-q)) s).1 (headV p q) else ([], false))
  else ([], false)
theorem joinTwo_len (a b : List UInt8) : (joinTwo a b).length ≤ a.length + b.length + 1 := by
  unfold joinTwo
  split
  · omega
  · split
    · omega
    · simp; omega
theorem joinV_len (a b : List UInt8) : (joinV a b).1.length ≤ a.length + b.length + 1 := by
  rw [joinV_eq]
  split
  · exact joinTwo_len a b
  · simp
theorem head_len {p q : Int} (hp : I64 p) (hq : I64 q) : (headV p q).length ≤ 42 := by
  have h1 := itoa_len20 hp
  have h2 := itoa_len20 hq
  unfold headV
  simp only [List.length_cons, List.length_append]
  omega
theorem piecesV_I64 (s : List UInt8) : I64 (piecesV s) := by
  unfold piecesV I64
  cases h : benchW s with
  | none => simp
  | some ps =>
    have := (benchW_some h).1
    simp only
    omega
def SP_sBenchValid : Spec := fun ins K => ∃ s, ins = [bv s] ∧ K [.bool (benchW s).isSome]
theorem sat_sBenchValid (P : Program) (ins : List Value) (K : List Value → Prop) (_ : TypedL [.str] ins) (h : SP_sBenchValid ins K) : sat P Ss_sBenchValid tr_sBenchValid ins [] K := by
  obtain ⟨s, rfl, hK⟩ := h
  refine evs_step (call_step rfl ⟨s, rfl, ?_⟩)
  cases hb : benchW s with
  | none =>
    rw [hb] at hK
    exact fun x c => evs_nil hK
  | some ps =>
    rw [hb] at hK
    exact fun a len cap l _ _ _ => evs_nil hK

def tr_iBenchPieces : Tr :=
  (.evs [.call 0 [(.var 0)] none 3]
  (.ite (.not (.var 2))
  (.ret [(.int .i64 (-1))])
  (.ret [(.len (.var 1))])))
def Ss_iBenchPieces : List Spec := [SP_readBench]
def SP_iBenchPieces : Spec := fun ins K => ∃ s, ins = [bv s] ∧ s.length ≤ 2097152 ∧ K [.int .i64 (piecesV s)]
theorem sat_iBenchPieces (P : Program) (ins : List Value) (K : List Value → Prop) (_ : TypedL [.str] ins) (h : SP_iBenchPieces ins K) : sat P Ss_iBenchPieces tr_iBenchPieces ins [] K := by
  obtain ⟨s, rfl, hl, hK⟩ := h
  refine evs_step (call_step rfl ⟨s, rfl, hl, ?_⟩)
  unfold piecesV at hK
  cases hb : benchW s with
  | none =>
    rw [hb] at hK
    exact evs_nil (ite_t rfl hK)
  | some ps =>
    rw [hb] at hK
    intro a len cap l _ _ he
    subst he
    exact evs_nil (ite_f rfl hK)

def tr_iBenchBack : Tr :=
  (.evs [.call 0 [(.var 0)] none 3]
  (.ite (.not (.var 2))
  (.ret [(.val (.string ⟨#[]⟩)), (.bool false)])
  (.evs [.call 1 [(.var 1), (.var 3)] none 2,
     .call 2 [(.var 4), (.var 5)] none 1]
   (.ret [(.var 6), (.bool true)]))))
def Ss_iBenchBack : List Spec := [SP_readBench, SP_revP, SP_writeBenchS]
def SP_iBenchBack : Spec := fun ins K => ∃ s, ins = [bv s] ∧ s.length ≤ 2097152 ∧ K [bv (backV s).1, .bool (backV s).2]
theorem back_len {s : List UInt8} {ps : List Pc} (h : benchW s = some ps) : (joinB 32 (ps.reverse.map Pc.t)).length ≤ 300 := benchW_length (benchW_back h)
theorem sat_iBenchBack (P : Program) (ins : List Value) (K : List Value → Prop) (_ : TypedL [.str] ins) (h : SP_iBenchBack ins K) : sat P Ss_iBenchBack tr_iBenchBack ins [] K := by
  obtain ⟨s, rfl, hl, hK⟩ := h
  refine evs_step (call_step rfl ⟨s, rfl, hl, ?_⟩)
  unfold backV at hK
  cases hb : benchW s with
  | none =>
    rw [hb] at hK
    exact evs_nil (ite_t rfl hK)
  | some ps =>
    rw [hb] at hK
    intro a len cap l e1 _ he
    subst e1
    rw [List.length_map] at he
    subst he
    have hx := (benchW_some hb).1
    rw [List.length_map] at hx
    have et : (l.reverse.map fun p : PV => p.1.t) = (l.map Prod.fst).reverse.map Pc.t := by simp
    have hbl := back_len hb
    refine evs_nil (ite_f rfl (evs_step (call_step rfl ⟨a, cap, l, rfl, by omega, fun a' cap' => ?_⟩)))
    refine call_step rfl ⟨a', cap', l.reverse, by rw [List.length_reverse]; rfl, by rw [List.length_reverse]; omega, by rw [et]; omega, ?_⟩
    rw [et]
    exact evs_nil hK

def tr_sBenchBack : Tr :=
  (.evs [.call 0 [(.var 0)] none 1]
  (.ite (.not (.var 1))
  (.ret [(.val (.string ⟨#[]⟩)), (.bool false)])
  (.evs [.call 1 [(.var 0), (.int .u8 32)] none 2]
   (.evs [.need [(.inb (.var 3) (.int .i64 0) 1)]]
   (.lp 0 [(.int .i64 1), (.sel (.var 3) (.int .i64 0) 1 0)] [.int .i64, .str]
   (.ite (.cmp .lss (.var 4) (.len (.var 2)))
    (.evs [.need [(.inb (.var 3) (.var 4) 1)],
       .need [(.cmp .leq (.len (.sel (.var 3) (.var 4) 1 0)) (.ar .sub .i64 (.int .i64 9223372036854775807) (.len (.val (.string ⟨#[32]⟩)))))],
       .need [(.cmp .leq (.len (.scat (.sel (.var 3) (.var 4) 1 0) (.val (.string ⟨#[32]⟩)))) (.ar .sub .i64 (.int .i64 9223372036854775807) (.len (.var 5))))]]
     (.next 0 [(.ar .add .i64 (.var 4) (.int .i64 1)), (.scat (.scat (.sel (.var 3) (.var 4) 1 0) (.val (.string ⟨#[32]⟩))) (.var 5))]))
    (.ret [(.var 5), (.bool true)])))))))
def Ss_sBenchBack : List Spec := [SP_sBenchValid, SP_l7Cut]
def SP_sBenchBack : Spec := fun ins K => ∃ s, ins = [bv s] ∧ K [bv (backV s).1, .bool (backV s).2]
theorem sat_sBenchBack (P : Program) (ins : List Value) (K : List Value → Prop) (_ : TypedL [.str] ins) (h : SP_sBenchBack ins K) : sat P Ss_sBenchBack tr_sBenchBack ins [] K := by
  obtain ⟨s, rfl, hK⟩ := h
  refine evs_step (call_step rfl ⟨s, rfl, ?_⟩)
  unfold backV at hK
  cases hb : benchW s with
  | none =>
    rw [hb] at hK
    exact evs_nil (ite_t rfl hK)
  | some ps =>
    rw [hb] at hK
    have hsl := benchW_length hb
    have hcc := cut_count 32 s
    have hne := cut_ne 32 s
    have hback : joinB 32 (ps.reverse.map Pc.t) = joinB 32 (cut 32 s).reverse := by
      obtain ⟨_, ⟨rfl, rfl⟩ | ⟨_, h2⟩⟩ := benchW_some hb
      · rfl
      · rw [List.map_reverse, (pcsW_length h2).2]
    dsimp only at hK
    rw [hback] at hK
    have hpos : 0 < (cut 32 s).length := List.length_pos_iff.2 hne
    refine evs_nil (ite_f rfl (evs_step (call_step rfl ⟨s, 32, rfl, by omega, fun a len cap hlen => evs_nil ?_⟩)))
    subst hlen
    have h0 := List.getElem?_eq_getElem hpos
    refine evs_step (need_step (all_cons (inb_true (c := rowS (cut 32 s)) (i := 0) (n := 1) (by simp [rowS_cells]; omega)) all_nil) (evs_nil ?_))
    refine ⟨fun vs => ∃ i : Nat, vs = [.int .i64 i, bv (joinB 32 ((cut 32 s).take i).reverse)] ∧ 1 ≤ i ∧ i ≤ (cut 32 s).length, fun vs => (cut 32 s).length - (toI (vs.getD 0 undef)).toNat, ?_, ?_⟩
    · refine ⟨1, ?_, by omega, hpos⟩
      show [Value.int .i64 1, (rowS (cut 32 s)).cells.getD (0 * 1 + 0) undef] = _
      rw [rowS_get h0]
      have : (cut 32 s).take 1 = [(cut 32 s)[0]] := by rw [List.take_add_one, h0]; rfl
      rw [this]
      rfl
    · rintro vs hty ⟨i, rfl, h1, hi⟩
      refine ⟨fun hc => ?_, fun hc => ?_⟩
      · have hlt : i < (cut 32 s).length := by
          have hc : Value.bool (decide ((i : Int) < ((cut 32 s).length : Int))) = .bool true := hc
          have := bt_of hc; omega
        have hx := List.getElem?_eq_getElem hlt
        have hw : IntKind.i64.wrap ((i : Int) + 1) = ((i + 1 : Nat) : Int) := by rw [wrap_in (by omega)]; omega
        have htk : (cut 32 s).take (i + 1) = (cut 32 s).take i ++ [(cut 32 s)[i]] := by rw [List.take_add_one, hx]; rfl
        have hwl := cut_len 32 s _ (List.getElem_mem hlt)
        have hget : (rowS (cut 32 s)).cells.getD (((i : Int)).toNat * 1 + 0) undef = bv (cut 32 s)[i] := by rw [Int.toNat_natCast, rowS_get hx]
        have hjl : (joinB 32 ((cut 32 s).take i).reverse).length ≤ 1000000 := by
          have hall : ∀ w ∈ ((cut 32 s).take i).reverse, w.length ≤ 300 := by
            intro w hw
            have hw : w ∈ (cut 32 s).take i := by simpa using hw
            have := cut_len 32 s w (List.mem_of_mem_take hw)
            omega
          have := joinB_length 32 300 hall
          simp only [List.length_reverse, List.length_take] at this
          have h2 : min i (cut 32 s).length * (300 + 1) ≤ 301 * 301 := Nat.mul_le_mul_right _ (by omega)
          omega
        refine evs_step (need_step (all_cons (inb_true (c := rowS (cut 32 s)) (i := i) (n := 1) (by simp [rowS_cells]; omega)) all_nil) (need_step (all_cons ?_ all_nil) (need_step (all_cons ?_ all_nil) (evs_nil ?_))))
        · show Value.bool (decide (lenV ((rowS (cut 32 s)).cells.getD (((i : Int)).toNat * 1 + 0) undef) ≤ IntKind.i64.wrap (9223372036854775807 - lenV (bv [32])))) = _
          rw [hget, len_bv, len_bv, wrap_in (by simp)]
          exact bt (by simp; omega)
        · show Value.bool (decide (lenV (Value.string (strV ((rowS (cut 32 s)).cells.getD (((i : Int)).toNat * 1 + 0) undef) ++ strV (bv [32]))) ≤ IntKind.i64.wrap (9223372036854775807 - lenV (bv (joinB 32 ((cut 32 s).take i).reverse))))) = _
          rw [hget, scat_bv, len_bv, len_bv, wrap_in (by omega)]
          exact bt (by simp; omega)
        · refine ⟨⟨i + 1, ?_, by omega, hlt⟩, ?_⟩
          · show [Value.int .i64 (IntKind.i64.wrap ((i : Int) + 1)), Value.string (strV (Value.string (strV ((rowS (cut 32 s)).cells.getD (((i : Int)).toNat * 1 + 0) undef) ++ strV (bv [32]))) ++ strV (bv (joinB 32 ((cut 32 s).take i).reverse)))] = _
            rw [hget, scat_bv, scat_bv, hw, htk, List.reverse_append, List.reverse_singleton, List.singleton_append, joinB_cons]
            · simp
            · intro e
              rcases List.take_eq_nil_iff.1 (List.reverse_eq_nil_iff.1 e) with h | h
              · omega
              · exact hne h
          · show (cut 32 s).length - (IntKind.i64.wrap ((i : Int) + 1)).toNat < (cut 32 s).length - ((i : Int)).toNat
            rw [hw, Int.toNat_natCast, Int.toNat_natCast]
            omega
      · have hge : i = (cut 32 s).length := by
          have hc : Value.bool (decide ((i : Int) < ((cut 32 s).length : Int))) = .bool false := hc
          have := bf_of hc; omega
        subst hge
        have hK : K [bv (joinB 32 (cut 32 s).reverse), .bool true] := hK
        rw [← List.take_length (l := cut 32 s)] at hK
        exact hK

def tr_ofG : Tr :=
  (.evs [.call 0 [(.len (.var 0)), (.var 1), (.var 2)] none 3,
    .need [(.inb (.var 3) (.var 4) 1)]]
  (.ret [(.sel (.var 3) (.var 4) 1 0), (.var 5), (.var 6)]))
def Ss_ofG (cb : CodeB) : List Spec := [(F_pickC cb).spec]
-- part drawt
theorem pick_use {cb : CodeB} (hk : CodeOk cb) {m : Int} (hm : 1 ≤ m) (hm2 : m ≤ 1000) {b : Value} {z : Int} (hb : goodSl cb b) (h0 : 0 ≤ z) (hz : z ≤ 1000000000) {K : List Value → Prop} (hK : ∀ x, 0 ≤ x → x ≤ m - 1 → K [.int .i64 x, b, .int .i64 (z + 1)]) : (G_pick cb).spec [.int .i64 m, b, .int .i64 z] K := by
  have hn : I64 m := by unfold I64; omega
  obtain ⟨_, x, q2, q3, q4⟩ := pick_facts hk hb hn ⟨h0, hz⟩
  refine ⟨⟨hb, ⟨m, rfl, hn⟩, z, rfl, h0, hz⟩, ?_⟩
  have e : (G_pick cb).out [.int .i64 m, b, .int .i64 z] = [.int .i64 x, b, .int .i64 (z + 1)] := q2
  rw [e]
  exact hK x q3 (by omega)
theorem pk_step {P : Program} {cb : CodeB} (hk : CodeOk cb) {specs : List Spec} {j : Nat} (hs : specs[j]? = some (G_pick cb).spec) {mE bE zE : Ex} {r : List Evn} {env : List Value} {K : List Value → Prop} (m : Int) {b : Value} {z : Int}
    (em : ev env mE = .int .i64 m) (eb : ev env bE = b) (ez : ev env zE = .int .i64 z) (hm : 1 ≤ m ∧ m ≤ 1000) (hb : goodSl cb b) (hz : 0 ≤ z ∧ z ≤ 1000000)
    (h : ∀ x, 0 ≤ x → x ≤ m - 1 → evSat P specs r (env ++ [.int .i64 x, b, .int .i64 (z + 1)]) K) : evSat P specs (.call j [mE, bE, zE] none 3 :: r) env K := by
  refine call_step hs ?_
  show (G_pick cb).spec [ev env mE, ev env bE, ev env zE] _
  rw [em, eb, ez]
  exact pick_use hk hm.1 hm.2 hb hz.1 (by omega) h
def SP_ofG (cb : CodeB) : Spec := ofSpecG cb
theorem sat_ofG (P : Program) (cb : CodeB) (hk : CodeOk cb) (ins : List Value) (K : List Value → Prop) (_ : TypedL [.sl, .sl, .int .i64, .rowC [.str]] ins) (h : SP_ofG cb ins K) : sat P (Ss_ofG cb) tr_ofG ins [] K := by
  obtain ⟨q, b, z, c0, c1, c2, c3, c4, c5, c6, c7, rfl, hb, h0, hz, hc, hK⟩ := h
  refine evs_step ?_
  refine pk_step hk rfl 8 rfl rfl rfl (by omega) hb (by omega) fun x x0 x1 => ?_
  obtain ⟨n, rfl⟩ := Int.eq_ofNat_of_zero_le x0
  have hn : n < 8 := by omega
  refine need_step (all_cons (inb_true (c := .agg #[c0, c1, c2, c3, c4, c5, c6, c7]) (i := n) (n := 1) (by show (n + 1) * 1 ≤ 8; omega)) all_nil) (evs_nil ?_)
  refine hK _ _ _ ?_ hb (by omega) (by omega)
  have e : n = 0 ∨ n = 1 ∨ n = 2 ∨ n = 3 ∨ n = 4 ∨ n = 5 ∨ n = 6 ∨ n = 7 := by omega
  rcases e with rfl | rfl | rfl | rfl | rfl | rfl | rfl | rfl
  · exact hc c0 (by simp)
  · exact hc c1 (by simp)
  · exact hc c2 (by simp)
  · exact hc c3 (by simp)
  · exact hc c4 (by simp)
  · exact hc c5 (by simp)
  · exact hc c6 (by simp)
  · exact hc c7 (by simp)

def SP_ofC (cb : CodeB) : Spec := ofSpec cb

def tr_l92Piece : Tr :=
  (.evs [.call 0 [(.int .i64 5), (.var 1), (.var 2)] none 3,
    .call 1 [(.ar .sub .i64 (.var 3) (.int .i64 2))] none 1]
  (.evs [.call 0 [(.int .i64 2), (.var 4), (.var 5)] none 3,
    .call 1 [(.ar .add .i64 (.int .i64 1) (.var 7))] none 1]
  (.evs [.call 0 [(.int .i64 5), (.var 8), (.var 9)] none 3]
  (.ite (.cmp .eql (.var 11) (.int .i64 0))
  (.evs [.need [(.cmp .leq (.len (.val (.string ⟨#[114]⟩))) (.ar .sub .i64 (.int .i64 9223372036854775807) (.len (.var 6))))],
     .need [(.cmp .leq (.len (.scat (.val (.string ⟨#[114]⟩)) (.var 6))) (.ar .sub .i64 (.int .i64 9223372036854775807) (.len (.val (.string ⟨#[58]⟩)))))],
     .need [(.cmp .leq (.len (.scat (.scat (.val (.string ⟨#[114]⟩)) (.var 6)) (.val (.string ⟨#[58]⟩)))) (.ar .sub .i64 (.int .i64 9223372036854775807) (.len (.var 10))))]]
   (.ret [(.scat (.scat (.scat (.val (.string ⟨#[114]⟩)) (.var 6)) (.val (.string ⟨#[58]⟩))) (.var 10)), (.var 12), (.var 13)]))
  (.ite (.cmp .eql (.var 11) (.int .i64 1))
   (.ite (.cmp .eql (.var 11) (.int .i64 1))
    (.evs [.need [(.cmp .leq (.len (.val (.string ⟨#[119]⟩))) (.ar .sub .i64 (.int .i64 9223372036854775807) (.len (.var 6))))],
       .need [(.cmp .leq (.len (.scat (.val (.string ⟨#[119]⟩)) (.var 6))) (.ar .sub .i64 (.int .i64 9223372036854775807) (.len (.val (.string ⟨#[58]⟩)))))],
       .need [(.cmp .leq (.len (.scat (.scat (.val (.string ⟨#[119]⟩)) (.var 6)) (.val (.string ⟨#[58]⟩)))) (.ar .sub .i64 (.int .i64 9223372036854775807) (.len (.var 10))))],
       .need [(.cmp .leq (.len (.scat (.scat (.scat (.val (.string ⟨#[119]⟩)) (.var 6)) (.val (.string ⟨#[58]⟩))) (.var 10))) (.ar .sub .i64 (.int .i64 9223372036854775807) (.len (.val (.string ⟨#[58]⟩)))))],
       .call 0 [(.int .i64 4), (.var 12), (.var 13)] none 3,
       .call 1 [(.var 14)] none 1,
       .need [(.cmp .leq (.len (.scat (.scat (.scat (.scat (.val (.string ⟨#[119]⟩)) (.var 6)) (.val (.string ⟨#[58]⟩))) (.var 10)) (.val (.string ⟨#[58]⟩)))) (.ar .sub .i64 (.int .i64 9223372036854775807) (.len (.var 17))))]]
     (.ret [(.scat (.scat (.scat (.scat (.scat (.val (.string ⟨#[119]⟩)) (.var 6)) (.val (.string ⟨#[58]⟩))) (.var 10)) (.val (.string ⟨#[58]⟩))) (.var 17)), (.var 15), (.var 16)]))
    (.ite (.cmp .eql (.var 11) (.int .i64 3))
     (.evs [.need [(.cmp .leq (.len (.val (.string ⟨#[102]⟩))) (.ar .sub .i64 (.int .i64 9223372036854775807) (.len (.var 6))))],
        .need [(.cmp .leq (.len (.scat (.val (.string ⟨#[102]⟩)) (.var 6))) (.ar .sub .i64 (.int .i64 9223372036854775807) (.len (.val (.string ⟨#[58]⟩)))))],
        .need [(.cmp .leq (.len (.scat (.scat (.val (.string ⟨#[102]⟩)) (.var 6)) (.val (.string ⟨#[58]⟩)))) (.ar .sub .i64 (.int .i64 9223372036854775807) (.len (.var 10))))]]
      (.ret [(.scat (.scat (.scat (.val (.string ⟨#[102]⟩)) (.var 6)) (.val (.string ⟨#[58]⟩))) (.var 10)), (.var 12), (.var 13)]))
     (.evs [.call 0 [(.int .i64 4), (.var 12), (.var 13)] none 3]
      (.evs [.call 0 [(.int .i64 2), (.var 15), (.var 16)] (some (.var 0)) 3]
      (.ite (.ite (.var 0) (.cmp .eql (.var 17) (.int .i64 0)) (.bool false))
      (.evs [.call 0 [(.ar .add .i64 (.ar .add .i64 (.int .i64 1) (.var 14)) (.int .i64 1)), (.ite (.var 0) (.var 18) (.var 15)), (.ite (.var 0) (.var 19) (.var 16))] none 3,
         .call 1 [(.var 20)] none 1,
         .need [(.cmp .leq (.len (.val (.string ⟨#[100]⟩))) (.ar .sub .i64 (.int .i64 9223372036854775807) (.len (.var 23))))],
         .need [(.cmp .leq (.len (.scat (.val (.string ⟨#[100]⟩)) (.var 23))) (.ar .sub .i64 (.int .i64 9223372036854775807) (.len (.val (.string ⟨#[58]⟩)))))],
         .call 1 [(.ar .add .i64 (.int .i64 1) (.var 14))] none 1,
         .need [(.cmp .leq (.len (.scat (.scat (.val (.string ⟨#[100]⟩)) (.var 23)) (.val (.string ⟨#[58]⟩)))) (.ar .sub .i64 (.int .i64 9223372036854775807) (.len (.var 24))))]]
       (.ret [(.scat (.scat (.scat (.val (.string ⟨#[100]⟩)) (.var 23)) (.val (.string ⟨#[58]⟩))) (.var 24)), (.var 21), (.var 22)]))
      (.evs [.call 0 [(.ar .add .i64 (.ar .add .i64 (.int .i64 1) (.var 14)) (.int .i64 1)), (.ite (.var 0) (.var 18) (.var 15)), (.ite (.var 0) (.var 19) (.var 16))] none 3,
         .call 1 [(.var 20)] none 1,
         .need [(.cmp .leq (.len (.val (.string ⟨#[97]⟩))) (.ar .sub .i64 (.int .i64 9223372036854775807) (.len (.var 23))))],
         .need [(.cmp .leq (.len (.scat (.val (.string ⟨#[97]⟩)) (.var 23))) (.ar .sub .i64 (.int .i64 9223372036854775807) (.len (.val (.string ⟨#[58]⟩)))))],
         .call 1 [(.ar .add .i64 (.int .i64 1) (.var 14))] none 1,
         .need [(.cmp .leq (.len (.scat (.scat (.val (.string ⟨#[97]⟩)) (.var 23)) (.val (.string ⟨#[58]⟩)))) (.ar .sub .i64 (.int .i64 9223372036854775807) (.len (.var 24))))]]
       (.ret [(.scat (.scat (.scat (.val (.string ⟨#[97]⟩)) (.var 23)) (.val (.string ⟨#[58]⟩))) (.var 24)), (.var 21), (.var 22)])))))))
   (.ite (.cmp .eql (.var 11) (.int .i64 2))
    (.evs [.need [(.cmp .leq (.len (.val (.string ⟨#[119]⟩))) (.ar .sub .i64 (.int .i64 9223372036854775807) (.len (.var 6))))],
       .need [(.cmp .leq (.len (.scat (.val (.string ⟨#[119]⟩)) (.var 6))) (.ar .sub .i64 (.int .i64 9223372036854775807) (.len (.val (.string ⟨#[58]⟩)))))],
       .need [(.cmp .leq (.len (.scat (.scat (.val (.string ⟨#[119]⟩)) (.var 6)) (.val (.string ⟨#[58]⟩)))) (.ar .sub .i64 (.int .i64 9223372036854775807) (.len (.var 10))))],
       .need [(.cmp .leq (.len (.scat (.scat (.scat (.val (.string ⟨#[119]⟩)) (.var 6)) (.val (.string ⟨#[58]⟩))) (.var 10))) (.ar .sub .i64 (.int .i64 9223372036854775807) (.len (.val (.string ⟨#[58]⟩)))))],
       .call 0 [(.int .i64 4), (.var 12), (.var 13)] none 3,
       .call 1 [(.var 14)] none 1,
       .need [(.cmp .leq (.len (.scat (.scat (.scat (.scat (.val (.string ⟨#[119]⟩)) (.var 6)) (.val (.string ⟨#[58]⟩))) (.var 10)) (.val (.string ⟨#[58]⟩)))) (.ar .sub .i64 (.int .i64 9223372036854775807) (.len (.var 17))))]]
     (.ret [(.scat (.scat (.scat (.scat (.scat (.val (.string ⟨#[119]⟩)) (.var 6)) (.val (.string ⟨#[58]⟩))) (.var 10)) (.val (.string ⟨#[58]⟩))) (.var 17)), (.var 15), (.var 16)]))
    (.ite (.cmp .eql (.var 11) (.int .i64 3))
     (.evs [.need [(.cmp .leq (.len (.val (.string ⟨#[102]⟩))) (.ar .sub .i64 (.int .i64 9223372036854775807) (.len (.var 6))))],
        .need [(.cmp .leq (.len (.scat (.val (.string ⟨#[102]⟩)) (.var 6))) (.ar .sub .i64 (.int .i64 9223372036854775807) (.len (.val (.string ⟨#[58]⟩)))))],
        .need [(.cmp .leq (.len (.scat (.scat (.val (.string ⟨#[102]⟩)) (.var 6)) (.val (.string ⟨#[58]⟩)))) (.ar .sub .i64 (.int .i64 9223372036854775807) (.len (.var 10))))]]
      (.ret [(.scat (.scat (.scat (.val (.string ⟨#[102]⟩)) (.var 6)) (.val (.string ⟨#[58]⟩))) (.var 10)), (.var 12), (.var 13)]))
     (.evs [.call 0 [(.int .i64 4), (.var 12), (.var 13)] none 3]
      (.evs [.call 0 [(.int .i64 2), (.var 15), (.var 16)] (some (.var 0)) 3]
      (.ite (.ite (.var 0) (.cmp .eql (.var 17) (.int .i64 0)) (.bool false))
      (.evs [.call 0 [(.ar .add .i64 (.ar .add .i64 (.int .i64 1) (.var 14)) (.int .i64 1)), (.ite (.var 0) (.var 18) (.var 15)), (.ite (.var 0) (.var 19) (.var 16))] none 3,
         .call 1 [(.var 20)] none 1,
         .need [(.cmp .leq (.len (.val (.string ⟨#[100]⟩))) (.ar .sub .i64 (.int .i64 9223372036854775807) (.len (.var 23))))],
         .need [(.cmp .leq (.len (.scat (.val (.string ⟨#[100]⟩)) (.var 23))) (.ar .sub .i64 (.int .i64 9223372036854775807) (.len (.val (.string ⟨#[58]⟩)))))],
         .call 1 [(.ar .add .i64 (.int .i64 1) (.var 14))] none 1,
         .need [(.cmp .leq (.len (.scat (.scat (.val (.string ⟨#[100]⟩)) (.var 23)) (.val (.string ⟨#[58]⟩)))) (.ar .sub .i64 (.int .i64 9223372036854775807) (.len (.var 24))))]]
       (.ret [(.scat (.scat (.scat (.val (.string ⟨#[100]⟩)) (.var 23)) (.val (.string ⟨#[58]⟩))) (.var 24)), (.var 21), (.var 22)]))
      (.evs [.call 0 [(.ar .add .i64 (.ar .add .i64 (.int .i64 1) (.var 14)) (.int .i64 1)), (.ite (.var 0) (.var 18) (.var 15)), (.ite (.var 0) (.var 19) (.var 16))] none 3,
         .call 1 [(.var 20)] none 1,
         .need [(.cmp .leq (.len (.val (.string ⟨#[97]⟩))) (.ar .sub .i64 (.int .i64 9223372036854775807) (.len (.var 23))))],
         .need [(.cmp .leq (.len (.scat (.val (.string ⟨#[97]⟩)) (.var 23))) (.ar .sub .i64 (.int .i64 9223372036854775807) (.len (.val (.string ⟨#[58]⟩)))))],
         .call 1 [(.ar .add .i64 (.int .i64 1) (.var 14))] none 1,
         .need [(.cmp .leq (.len (.scat (.scat (.val (.string ⟨#[97]⟩)) (.var 23)) (.val (.string ⟨#[58]⟩)))) (.ar .sub .i64 (.int .i64 9223372036854775807) (.len (.var 24))))]]
       (.ret [(.scat (.scat (.scat (.val (.string ⟨#[97]⟩)) (.var 23)) (.val (.string ⟨#[58]⟩))) (.var 24)), (.var 21), (.var 22)]))))))))))))
def Ss_l92Piece (cb : CodeB) : List Spec := [(F_pickC cb).spec, SP_l6Dec]
def SP_l92Piece (cb : CodeB) : Spec := drawT cb 15 10 200000
set_option maxHeartbeats 2000000 in
theorem sat_l92Piece (P : Program) (cb : CodeB) (hk : CodeOk cb) (ins : List Value) (K : List Value → Prop) (_ : TypedL [.bool, .sl, .int .i64] ins) (h : SP_l92Piece cb ins K) : sat P (Ss_l92Piece cb) tr_l92Piece ins [] K := by
  obtain ⟨f, b, z, rfl, hb, h0, hz, hK⟩ := h
  cases f with
  | false =>
    refine evs_step ?_
    refine pk_step hk rfl 5 rfl rfl rfl (by omega) hb (by omega) fun x1 x1l x1h => ?_
    refine dec_step1 rfl (x1 - 2) (ar_sub rfl rfl (by omega)) (by omega) fun v2 hv2 => ?_
    refine evs_nil ?_
    refine evs_step ?_
    refine pk_step hk rfl 2 rfl rfl rfl (by omega) hb (by omega) fun x3 x3l x3h => ?_
    refine dec_step1 rfl (1 + x3) (ar_add rfl rfl (by omega)) (by omega) fun v4 hv4 => ?_
    refine evs_nil ?_
    refine evs_step ?_
    refine pk_step hk rfl 5 rfl rfl rfl (by omega) hb (by omega) fun x5 x5l x5h => ?_
    refine evs_nil ?_
    refine ⟨fun _ => ?_, fun _ => ?_⟩
    · refine evs_step ?_
      refine needs_sh (sh_c [114]) hv2 (by decide) ?_
      refine needs_sh (sh_scat (sh_c [114]) hv2) (sh_c [58]) (by decide) ?_
      refine needs_sh (sh_scat (sh_scat (sh_c [114]) hv2) (sh_c [58])) hv4 (by decide) ?_
      refine evs_nil ?_
      exact hK _ _ _ (sh_mono (sh_scat (sh_scat (sh_scat (sh_c [114]) hv2) (sh_c [58])) hv4) (by decide)) hb (by omega) (by omega)
    · refine ⟨fun _ => ?_, fun _ => ?_⟩
      · refine ⟨fun _ => ?_, fun _ => ?_⟩
        · refine evs_step ?_
          refine needs_sh (sh_c [119]) hv2 (by decide) ?_
          refine needs_sh (sh_scat (sh_c [119]) hv2) (sh_c [58]) (by decide) ?_
          refine needs_sh (sh_scat (sh_scat (sh_c [119]) hv2) (sh_c [58])) hv4 (by decide) ?_
          refine needs_sh (sh_scat (sh_scat (sh_scat (sh_c [119]) hv2) (sh_c [58])) hv4) (sh_c [58]) (by decide) ?_
          refine pk_step hk rfl 4 rfl rfl rfl (by omega) hb (by omega) fun x6 x6l x6h => ?_
          refine dec_step1 rfl x6 rfl (by omega) fun v7 hv7 => ?_
          refine needs_sh (sh_scat (sh_scat (sh_scat (sh_scat (sh_c [119]) hv2) (sh_c [58])) hv4) (sh_c [58])) hv7 (by decide) ?_
          refine evs_nil ?_
          exact hK _ _ _ (sh_mono (sh_scat (sh_scat (sh_scat (sh_scat (sh_scat (sh_c [119]) hv2) (sh_c [58])) hv4) (sh_c [58])) hv7) (by decide)) hb (by omega) (by omega)
        · refine ⟨fun _ => ?_, fun _ => ?_⟩
          · refine evs_step ?_
            refine needs_sh (sh_c [102]) hv2 (by decide) ?_
            refine needs_sh (sh_scat (sh_c [102]) hv2) (sh_c [58]) (by decide) ?_
            refine needs_sh (sh_scat (sh_scat (sh_c [102]) hv2) (sh_c [58])) hv4 (by decide) ?_
            refine evs_nil ?_
            exact hK _ _ _ (sh_mono (sh_scat (sh_scat (sh_scat (sh_c [102]) hv2) (sh_c [58])) hv4) (by decide)) hb (by omega) (by omega)
          · refine evs_step ?_
            refine pk_step hk rfl 4 rfl rfl rfl (by omega) hb (by omega) fun x8 x8l x8h => ?_
            refine evs_nil ?_
            refine evs_step ?_
            refine callg_step rfl (fun h => by cases h) fun _ => ?_
            refine evs_nil ?_
            refine ⟨fun _ => ?_, fun _ => ?_⟩
            · refine evs_step ?_
              refine pk_step hk rfl ((1 + x8) + 1) (ar_add (ar_add rfl rfl (by omega)) rfl (by omega)) rfl rfl (by omega) hb (by omega) fun x9 x9l x9h => ?_
              refine dec_step1 rfl x9 rfl (by omega) fun v10 hv10 => ?_
              refine needs_sh (sh_c [100]) hv10 (by decide) ?_
              refine needs_sh (sh_scat (sh_c [100]) hv10) (sh_c [58]) (by decide) ?_
              refine dec_step1 rfl (1 + x8) (ar_add rfl rfl (by omega)) (by omega) fun v11 hv11 => ?_
              refine needs_sh (sh_scat (sh_scat (sh_c [100]) hv10) (sh_c [58])) hv11 (by decide) ?_
              refine evs_nil ?_
              exact hK _ _ _ (sh_mono (sh_scat (sh_scat (sh_scat (sh_c [100]) hv10) (sh_c [58])) hv11) (by decide)) hb (by omega) (by omega)
            · refine evs_step ?_
              refine pk_step hk rfl ((1 + x8) + 1) (ar_add (ar_add rfl rfl (by omega)) rfl (by omega)) rfl rfl (by omega) hb (by omega) fun x12 x12l x12h => ?_
              refine dec_step1 rfl x12 rfl (by omega) fun v13 hv13 => ?_
              refine needs_sh (sh_c [97]) hv13 (by decide) ?_
              refine needs_sh (sh_scat (sh_c [97]) hv13) (sh_c [58]) (by decide) ?_
              refine dec_step1 rfl (1 + x8) (ar_add rfl rfl (by omega)) (by omega) fun v14 hv14 => ?_
              refine needs_sh (sh_scat (sh_scat (sh_c [97]) hv13) (sh_c [58])) hv14 (by decide) ?_
              refine evs_nil ?_
              exact hK _ _ _ (sh_mono (sh_scat (sh_scat (sh_scat (sh_c [97]) hv13) (sh_c [58])) hv14) (by decide)) hb (by omega) (by omega)
      · refine ⟨fun _ => ?_, fun _ => ?_⟩
        · refine evs_step ?_
          refine needs_sh (sh_c [119]) hv2 (by decide) ?_
          refine needs_sh (sh_scat (sh_c [119]) hv2) (sh_c [58]) (by decide) ?_
          refine needs_sh (sh_scat (sh_scat (sh_c [119]) hv2) (sh_c [58])) hv4 (by decide) ?_
          refine needs_sh (sh_scat (sh_scat (sh_scat (sh_c [119]) hv2) (sh_c [58])) hv4) (sh_c [58]) (by decide) ?_
          refine pk_step hk rfl 4 rfl rfl rfl (by omega) hb (by omega) fun x15 x15l x15h => ?_
          refine dec_step1 rfl x15 rfl (by omega) fun v16 hv16 => ?_
          refine needs_sh (sh_scat (sh_scat (sh_scat (sh_scat (sh_c [119]) hv2) (sh_c [58])) hv4) (sh_c [58])) hv16 (by decide) ?_
          refine evs_nil ?_
          exact hK _ _ _ (sh_mono (sh_scat (sh_scat (sh_scat (sh_scat (sh_scat (sh_c [119]) hv2) (sh_c [58])) hv4) (sh_c [58])) hv16) (by decide)) hb (by omega) (by omega)
        · refine ⟨fun _ => ?_, fun _ => ?_⟩
          · refine evs_step ?_
            refine needs_sh (sh_c [102]) hv2 (by decide) ?_
            refine needs_sh (sh_scat (sh_c [102]) hv2) (sh_c [58]) (by decide) ?_
            refine needs_sh (sh_scat (sh_scat (sh_c [102]) hv2) (sh_c [58])) hv4 (by decide) ?_
            refine evs_nil ?_
            exact hK _ _ _ (sh_mono (sh_scat (sh_scat (sh_scat (sh_c [102]) hv2) (sh_c [58])) hv4) (by decide)) hb (by omega) (by omega)
          · refine evs_step ?_
            refine pk_step hk rfl 4 rfl rfl rfl (by omega) hb (by omega) fun x17 x17l x17h => ?_
            refine evs_nil ?_
            refine evs_step ?_
            refine callg_step rfl (fun h => by cases h) fun _ => ?_
            refine evs_nil ?_
            refine ⟨fun _ => ?_, fun _ => ?_⟩
            · refine evs_step ?_
              refine pk_step hk rfl ((1 + x17) + 1) (ar_add (ar_add rfl rfl (by omega)) rfl (by omega)) rfl rfl (by omega) hb (by omega) fun x18 x18l x18h => ?_
              refine dec_step1 rfl x18 rfl (by omega) fun v19 hv19 => ?_
              refine needs_sh (sh_c [100]) hv19 (by decide) ?_
              refine needs_sh (sh_scat (sh_c [100]) hv19) (sh_c [58]) (by decide) ?_
              refine dec_step1 rfl (1 + x17) (ar_add rfl rfl (by omega)) (by omega) fun v20 hv20 => ?_
              refine needs_sh (sh_scat (sh_scat (sh_c [100]) hv19) (sh_c [58])) hv20 (by decide) ?_
              refine evs_nil ?_
              exact hK _ _ _ (sh_mono (sh_scat (sh_scat (sh_scat (sh_c [100]) hv19) (sh_c [58])) hv20) (by decide)) hb (by omega) (by omega)
            · refine evs_step ?_
              refine pk_step hk rfl ((1 + x17) + 1) (ar_add (ar_add rfl rfl (by omega)) rfl (by omega)) rfl rfl (by omega) hb (by omega) fun x21 x21l x21h => ?_
              refine dec_step1 rfl x21 rfl (by omega) fun v22 hv22 => ?_
              refine needs_sh (sh_c [97]) hv22 (by decide) ?_
              refine needs_sh (sh_scat (sh_c [97]) hv22) (sh_c [58]) (by decide) ?_
              refine dec_step1 rfl (1 + x17) (ar_add rfl rfl (by omega)) (by omega) fun v23 hv23 => ?_
              refine needs_sh (sh_scat (sh_scat (sh_c [97]) hv22) (sh_c [58])) hv23 (by decide) ?_
              refine evs_nil ?_
              exact hK _ _ _ (sh_mono (sh_scat (sh_scat (sh_scat (sh_c [97]) hv22) (sh_c [58])) hv23) (by decide)) hb (by omega) (by omega)
  | true =>
    refine evs_step ?_
    refine pk_step hk rfl 5 rfl rfl rfl (by omega) hb (by omega) fun x1 x1l x1h => ?_
    refine dec_step1 rfl (x1 - 2) (ar_sub rfl rfl (by omega)) (by omega) fun v2 hv2 => ?_
    refine evs_nil ?_
    refine evs_step ?_
    refine pk_step hk rfl 2 rfl rfl rfl (by omega) hb (by omega) fun x3 x3l x3h => ?_
    refine dec_step1 rfl (1 + x3) (ar_add rfl rfl (by omega)) (by omega) fun v4 hv4 => ?_
    refine evs_nil ?_
    refine evs_step ?_
    refine pk_step hk rfl 5 rfl rfl rfl (by omega) hb (by omega) fun x5 x5l x5h => ?_
    refine evs_nil ?_
    refine ⟨fun _ => ?_, fun _ => ?_⟩
    · refine evs_step ?_
      refine needs_sh (sh_c [114]) hv2 (by decide) ?_
      refine needs_sh (sh_scat (sh_c [114]) hv2) (sh_c [58]) (by decide) ?_
      refine needs_sh (sh_scat (sh_scat (sh_c [114]) hv2) (sh_c [58])) hv4 (by decide) ?_
      refine evs_nil ?_
      exact hK _ _ _ (sh_mono (sh_scat (sh_scat (sh_scat (sh_c [114]) hv2) (sh_c [58])) hv4) (by decide)) hb (by omega) (by omega)
    · refine ⟨fun _ => ?_, fun _ => ?_⟩
      · refine ⟨fun _ => ?_, fun _ => ?_⟩
        · refine evs_step ?_
          refine needs_sh (sh_c [119]) hv2 (by decide) ?_
          refine needs_sh (sh_scat (sh_c [119]) hv2) (sh_c [58]) (by decide) ?_
          refine needs_sh (sh_scat (sh_scat (sh_c [119]) hv2) (sh_c [58])) hv4 (by decide) ?_
          refine needs_sh (sh_scat (sh_scat (sh_scat (sh_c [119]) hv2) (sh_c [58])) hv4) (sh_c [58]) (by decide) ?_
          refine pk_step hk rfl 4 rfl rfl rfl (by omega) hb (by omega) fun x6 x6l x6h => ?_
          refine dec_step1 rfl x6 rfl (by omega) fun v7 hv7 => ?_
          refine needs_sh (sh_scat (sh_scat (sh_scat (sh_scat (sh_c [119]) hv2) (sh_c [58])) hv4) (sh_c [58])) hv7 (by decide) ?_
          refine evs_nil ?_
          exact hK _ _ _ (sh_mono (sh_scat (sh_scat (sh_scat (sh_scat (sh_scat (sh_c [119]) hv2) (sh_c [58])) hv4) (sh_c [58])) hv7) (by decide)) hb (by omega) (by omega)
        · refine ⟨fun _ => ?_, fun _ => ?_⟩
          · refine evs_step ?_
            refine needs_sh (sh_c [102]) hv2 (by decide) ?_
            refine needs_sh (sh_scat (sh_c [102]) hv2) (sh_c [58]) (by decide) ?_
            refine needs_sh (sh_scat (sh_scat (sh_c [102]) hv2) (sh_c [58])) hv4 (by decide) ?_
            refine evs_nil ?_
            exact hK _ _ _ (sh_mono (sh_scat (sh_scat (sh_scat (sh_c [102]) hv2) (sh_c [58])) hv4) (by decide)) hb (by omega) (by omega)
          · refine evs_step ?_
            refine pk_step hk rfl 4 rfl rfl rfl (by omega) hb (by omega) fun x8 x8l x8h => ?_
            refine evs_nil ?_
            refine evs_step ?_
            refine callg_step rfl (fun _ => ?_) (fun h => by cases h)
            refine pick_use hk (m := 2) (by omega) (by omega) hb (by omega) (by omega) fun x9 x9l x9h => ?_
            refine evs_nil ?_
            refine ⟨fun _ => ?_, fun _ => ?_⟩
            · refine evs_step ?_
              refine pk_step hk rfl ((1 + x8) + 1) (ar_add (ar_add rfl rfl (by omega)) rfl (by omega)) rfl rfl (by omega) hb (by omega) fun x10 x10l x10h => ?_
              refine dec_step1 rfl x10 rfl (by omega) fun v11 hv11 => ?_
              refine needs_sh (sh_c [100]) hv11 (by decide) ?_
              refine needs_sh (sh_scat (sh_c [100]) hv11) (sh_c [58]) (by decide) ?_
              refine dec_step1 rfl (1 + x8) (ar_add rfl rfl (by omega)) (by omega) fun v12 hv12 => ?_
              refine needs_sh (sh_scat (sh_scat (sh_c [100]) hv11) (sh_c [58])) hv12 (by decide) ?_
              refine evs_nil ?_
              exact hK _ _ _ (sh_mono (sh_scat (sh_scat (sh_scat (sh_c [100]) hv11) (sh_c [58])) hv12) (by decide)) hb (by omega) (by omega)
            · refine evs_step ?_
              refine pk_step hk rfl ((1 + x8) + 1) (ar_add (ar_add rfl rfl (by omega)) rfl (by omega)) rfl rfl (by omega) hb (by omega) fun x13 x13l x13h => ?_
              refine dec_step1 rfl x13 rfl (by omega) fun v14 hv14 => ?_
              refine needs_sh (sh_c [97]) hv14 (by decide) ?_
              refine needs_sh (sh_scat (sh_c [97]) hv14) (sh_c [58]) (by decide) ?_
              refine dec_step1 rfl (1 + x8) (ar_add rfl rfl (by omega)) (by omega) fun v15 hv15 => ?_
              refine needs_sh (sh_scat (sh_scat (sh_c [97]) hv14) (sh_c [58])) hv15 (by decide) ?_
              refine evs_nil ?_
              exact hK _ _ _ (sh_mono (sh_scat (sh_scat (sh_scat (sh_c [97]) hv14) (sh_c [58])) hv15) (by decide)) hb (by omega) (by omega)
      · refine ⟨fun _ => ?_, fun _ => ?_⟩
        · refine evs_step ?_
          refine needs_sh (sh_c [119]) hv2 (by decide) ?_
          refine needs_sh (sh_scat (sh_c [119]) hv2) (sh_c [58]) (by decide) ?_
          refine needs_sh (sh_scat (sh_scat (sh_c [119]) hv2) (sh_c [58])) hv4 (by decide) ?_
          refine needs_sh (sh_scat (sh_scat (sh_scat (sh_c [119]) hv2) (sh_c [58])) hv4) (sh_c [58]) (by decide) ?_
          refine pk_step hk rfl 4 rfl rfl rfl (by omega) hb (by omega) fun x16 x16l x16h => ?_
          refine dec_step1 rfl x16 rfl (by omega) fun v17 hv17 => ?_
          refine needs_sh (sh_scat (sh_scat (sh_scat (sh_scat (sh_c [119]) hv2) (sh_c [58])) hv4) (sh_c [58])) hv17 (by decide) ?_
          refine evs_nil ?_
          exact hK _ _ _ (sh_mono (sh_scat (sh_scat (sh_scat (sh_scat (sh_scat (sh_c [119]) hv2) (sh_c [58])) hv4) (sh_c [58])) hv17) (by decide)) hb (by omega) (by omega)
        · refine ⟨fun _ => ?_, fun _ => ?_⟩
          · refine evs_step ?_
            refine needs_sh (sh_c [102]) hv2 (by decide) ?_
            refine needs_sh (sh_scat (sh_c [102]) hv2) (sh_c [58]) (by decide) ?_
            refine needs_sh (sh_scat (sh_scat (sh_c [102]) hv2) (sh_c [58])) hv4 (by decide) ?_
            refine evs_nil ?_
            exact hK _ _ _ (sh_mono (sh_scat (sh_scat (sh_scat (sh_c [102]) hv2) (sh_c [58])) hv4) (by decide)) hb (by omega) (by omega)
          · refine evs_step ?_
            refine pk_step hk rfl 4 rfl rfl rfl (by omega) hb (by omega) fun x18 x18l x18h => ?_
            refine evs_nil ?_
            refine evs_step ?_
            refine callg_step rfl (fun _ => ?_) (fun h => by cases h)
            refine pick_use hk (m := 2) (by omega) (by omega) hb (by omega) (by omega) fun x19 x19l x19h => ?_
            refine evs_nil ?_
            refine ⟨fun _ => ?_, fun _ => ?_⟩
            · refine evs_step ?_
              refine pk_step hk rfl ((1 + x18) + 1) (ar_add (ar_add rfl rfl (by omega)) rfl (by omega)) rfl rfl (by omega) hb (by omega) fun x20 x20l x20h => ?_
              refine dec_step1 rfl x20 rfl (by omega) fun v21 hv21 => ?_
              refine needs_sh (sh_c [100]) hv21 (by decide) ?_
              refine needs_sh (sh_scat (sh_c [100]) hv21) (sh_c [58]) (by decide) ?_
              refine dec_step1 rfl (1 + x18) (ar_add rfl rfl (by omega)) (by omega) fun v22 hv22 => ?_
              refine needs_sh (sh_scat (sh_scat (sh_c [100]) hv21) (sh_c [58])) hv22 (by decide) ?_
              refine evs_nil ?_
              exact hK _ _ _ (sh_mono (sh_scat (sh_scat (sh_scat (sh_c [100]) hv21) (sh_c [58])) hv22) (by decide)) hb (by omega) (by omega)
            · refine evs_step ?_
              refine pk_step hk rfl ((1 + x18) + 1) (ar_add (ar_add rfl rfl (by omega)) rfl (by omega)) rfl rfl (by omega) hb (by omega) fun x23 x23l x23h => ?_
              refine dec_step1 rfl x23 rfl (by omega) fun v24 hv24 => ?_
              refine needs_sh (sh_c [97]) hv24 (by decide) ?_
              refine needs_sh (sh_scat (sh_c [97]) hv24) (sh_c [58]) (by decide) ?_
              refine dec_step1 rfl (1 + x18) (ar_add rfl rfl (by omega)) (by omega) fun v25 hv25 => ?_
              refine needs_sh (sh_scat (sh_scat (sh_c [97]) hv24) (sh_c [58])) hv25 (by decide) ?_
              refine evs_nil ?_
              exact hK _ _ _ (sh_mono (sh_scat (sh_scat (sh_scat (sh_c [97]) hv24) (sh_c [58])) hv25) (by decide)) hb (by omega) (by omega)

def tr_l92Bench : Tr :=
  (.evs [.call 0 [(.int .i64 4), (.var 1), (.var 2)] none 3]
  (.lp 0 [(.int .i64 0), (.val (.string ⟨#[]⟩)), (.var 4), (.var 5)] [.int .i64, .str, .sl, .int .i64]
  (.ite (.cmp .lss (.var 6) (.var 3))
   (.ite (.cmp .gtr (.var 6) (.int .i64 0))
    (.evs [.need [(.cmp .leq (.len (.var 7)) (.ar .sub .i64 (.int .i64 9223372036854775807) (.len (.val (.string ⟨#[32]⟩)))))]]
     (.evs [.call 1 [(.var 0), (.var 8), (.var 9)] none 3,
       .need [(.cmp .leq (.len (.scat (.var 7) (.val (.string ⟨#[32]⟩)))) (.ar .sub .i64 (.int .i64 9223372036854775807) (.len (.var 10))))]]
     (.next 0 [(.ar .add .i64 (.var 6) (.int .i64 1)), (.scat (.scat (.var 7) (.val (.string ⟨#[32]⟩))) (.var 10)), (.var 11), (.var 12)])))
    (.evs [.call 1 [(.var 0), (.var 8), (.var 9)] none 3,
       .need [(.cmp .leq (.len (.var 7)) (.ar .sub .i64 (.int .i64 9223372036854775807) (.len (.var 10))))]]
     (.next 0 [(.ar .add .i64 (.var 6) (.int .i64 1)), (.scat (.var 7) (.var 10)), (.var 11), (.var 12)])))
   (.evs [.call 0 [(.int .i64 20), (.var 8), (.var 9)] none 3]
    (.ite (.cmp .eql (.var 10) (.int .i64 0))
    (.evs [.call 2 [(.var 11), (.var 12), (.val (.string ⟨#[32]⟩)), (.val (.string ⟨#[120]⟩)), (.val (.string ⟨#[114, 48, 58, 48]⟩)), (.val (.string ⟨#[32, 119, 49, 58, 49, 58, 52]⟩)), (.val (.string ⟨#[32, 97, 51, 58, 50]⟩)), (.val (.string ⟨#[32, 102, 48, 49, 58, 49]⟩)), (.val (.string ⟨#[32, 114, 45, 48, 58, 49]⟩)), (.val (.string ⟨#[32, 100, 49, 58, 48]⟩))] none 11,
       .need [(.cmp .leq (.len (.var 7)) (.ar .sub .i64 (.int .i64 9223372036854775807) (.len (.var 13))))]]
     (.ret [(.scat (.var 7) (.var 13)), (.var 14), (.var 15)]))
    (.ret [(.var 7), (.var 11), (.var 12)]))))))
def Ss_l92Bench (cb : CodeB) : List Spec := [(F_pickC cb).spec, (SP_l92Piece cb), (SP_ofC cb)]
def SP_l92Bench (cb : CodeB) : Spec := drawT cb 100 100 100000
set_option maxHeartbeats 2000000 in
theorem sat_l92Bench (P : Program) (cb : CodeB) (hk : CodeOk cb) (ins : List Value) (K : List Value → Prop) (_ : TypedL [.bool, .sl, .int .i64] ins) (h : SP_l92Bench cb ins K) : sat P (Ss_l92Bench cb) tr_l92Bench ins [] K := by
  obtain ⟨f, b, z, rfl, hb, h0, hz, hK⟩ := h
  refine evs_step (pk_step hk rfl 4 rfl rfl rfl (by omega) hb (by omega) fun nn n0 n1 => evs_nil ?_)
  refine ⟨fun vs => ∃ (j : Nat) (v b' : Value) (z' : Int), (j : Int) ≤ nn ∧ vs = [.int .i64 j, v, b', .int .i64 z'] ∧ Sh (16 * j) v ∧ goodSl cb b' ∧ 0 ≤ z' ∧ z' ≤ z + 1 + 10 * j, fun vs => (nn - toI (vs.getD 0 undef)).toNat, ?_, ?_⟩
  · exact ⟨0, _, b, z + 1, by omega, rfl, sh_c [], hb, by omega, by omega⟩
  · rintro vs _ ⟨j, v, b', z', hj, rfl, hv, hb', z0, z1⟩
    refine ⟨fun h => ?_, fun h => ?_⟩
    · have hlt : (j : Int) < nn := by
        have : decide ((j : Int) < nn) = true := Value.bool.inj h
        simpa using this
      have hw : IntKind.i64.wrap ((j : Int) + 1) = ((j + 1 : Nat) : Int) := by rw [wrap_in (by omega)]; omega
      refine ⟨fun _ => ?_, fun _ => ?_⟩
      · refine evs_step (needs_sh (m := 16 * j) (n := 1) hv (sh_c [32]) (by omega) (evs_nil ?_))
        refine evs_step (call_step rfl ⟨f, b', z', rfl, hb', z0, by omega, fun u b1 q hu hb1 q0 q1 => ?_⟩)
        refine needs_sh (m := 16 * j + 1) (n := 15) (sh_cat hv (sh_c [32])) hu (by omega) (evs_nil ?_)
        refine ⟨⟨j + 1, _, b1, q, by omega, ?_, sh_mono (sh_cat (sh_cat hv (sh_c [32])) hu) (by show 16 * j + 1 + 15 ≤ 16 * (j + 1); omega), hb1, q0, by omega⟩, ?_⟩
        · show [Value.int .i64 (IntKind.i64.wrap ((j : Int) + 1)), _, b1, .int .i64 q] = _
          rw [hw]; rfl
        · show (nn - toI (.int .i64 (IntKind.i64.wrap ((j : Int) + 1)))).toNat < (nn - toI (.int .i64 (j : Int))).toNat
          rw [hw]
          simp only [toI_int]
          omega
      · refine evs_step (call_step rfl ⟨f, b', z', rfl, hb', z0, by omega, fun u b1 q hu hb1 q0 q1 => ?_⟩)
        refine needs_sh (m := 16 * j) (n := 15) hv hu (by omega) (evs_nil ?_)
        refine ⟨⟨j + 1, _, b1, q, by omega, ?_, sh_mono (sh_cat hv hu) (by omega), hb1, q0, by omega⟩, ?_⟩
        · show [Value.int .i64 (IntKind.i64.wrap ((j : Int) + 1)), _, b1, .int .i64 q] = _
          rw [hw]; rfl
        · show (nn - toI (.int .i64 (IntKind.i64.wrap ((j : Int) + 1)))).toNat < (nn - toI (.int .i64 (j : Int))).toNat
          rw [hw]
          simp only [toI_int]
          omega
    · refine evs_step (pk_step hk rfl 20 rfl rfl rfl (by omega) hb' (by omega) fun x x0 x1 => evs_nil ?_)
      have hj3 : j ≤ 3 := by omega
      refine ⟨fun _ => ?_, fun _ => ?_⟩
      · refine evs_step (call_step rfl ⟨b', z' + 1, _, _, _, _, _, _, _, _, rfl, hb', by omega, by omega, fun c hc => ?_, fun u b1 q hu hb1 q0 q1 => ?_⟩)
        · simp only [List.mem_cons, List.not_mem_nil, or_false] at hc
          rcases hc with rfl | rfl | rfl | rfl | rfl | rfl | rfl | rfl
          · exact sh_mono (sh_c [32]) (by decide)
          · exact sh_mono (sh_c [120]) (by decide)
          · exact sh_mono (sh_c [114, 48, 58, 48]) (by decide)
          · exact sh_mono (sh_c [32, 119, 49, 58, 49, 58, 52]) (by decide)
          · exact sh_mono (sh_c [32, 97, 51, 58, 50]) (by decide)
          · exact sh_mono (sh_c [32, 102, 48, 49, 58, 49]) (by decide)
          · exact sh_mono (sh_c [32, 114, 45, 48, 58, 49]) (by decide)
          · exact sh_mono (sh_c [32, 100, 49, 58, 48]) (by decide)
        · refine needs_sh (m := 16 * j) (n := 8) hv hu (by omega) (evs_nil ?_)
          exact hK _ _ _ (sh_mono (sh_cat hv hu) (by omega)) hb1 q0 (by omega)
      · exact hK _ _ _ (sh_mono hv (by omega)) hb' (by omega) (by omega)

def tr_DrawBenchBack : Tr :=
  (.evs [.call 0 [(.var 0)] none 2,
    .call 1 [(.bool true), (.var 1), (.var 2)] none 3]
  (.ret [(.var 3)]))
def Ss_DrawBenchBack (cb : CodeB) : List Spec := [(F_openC cb).spec, (SP_l92Bench cb)]
def SP_DrawBenchBack (cb : CodeB) : Spec := benchDraw cb
theorem sat_DrawBenchBack (P : Program) (cb : CodeB) (hk : CodeOk cb) (ins : List Value) (K : List Value → Prop) (_ : TypedL [.sl] ins) (h : SP_DrawBenchBack cb ins K) : sat P (Ss_DrawBenchBack cb) tr_DrawBenchBack ins [] K := by
  obtain ⟨⟨v, rfl, hv⟩, hK⟩ := h
  refine ⟨hv, ?_⟩
  exact ⟨true, openV v, 0, rfl, openV_good hv, by omega, by omega, fun v b' z' h1 _ _ _ => hK _ (sh_mono h1 (by decide))⟩

def tr_FnBenchBack : Tr :=
  (.ite (.cmp .gtr (.len (.var 0)) (.int .i64 1048576))
  (.ret [(.bool true)])
  (.evs [.call 0 [(.var 0)] none 1]
   (.evs [.call 1 [(.var 1)] none 2]
   (.evs [.call 2 [(.var 1)] none 2]
   (.ite (.ite (.ite (.not (.eqb (.var 3) (.var 5))) (.bool true) (.not (.seq (.var 2) (.var 4)))) (.bool true) (.not (.var 3)))
   (.ret [(.ite (.eqb (.var 3) (.var 5)) (.seq (.var 2) (.var 4)) (.bool false))])
   (.evs [.call 1 [(.var 2)] none 2]
    (.evs [.call 3 [(.var 2)] (some (.ite (.var 7) (.seq (.var 6) (.var 1)) (.bool false))) 1,
      .call 3 [(.var 1)] (some (.ite (.var 7) (.seq (.var 6) (.var 1)) (.bool false))) 1]
    (.ret [(.ite (.ite (.var 7) (.seq (.var 6) (.var 1)) (.bool false)) (.cmp .eql (.var 8) (.var 9)) (.bool false))]))))))))
def Ss_FnBenchBack (cb : CodeB) : List Spec := [(SP_DrawBenchBack cb), SP_iBenchBack, SP_sBenchBack, SP_iBenchPieces]
-- part lw
theorem len_if {l : List UInt8} {b : Bool} (h : Value.bool (decide (lenV (bv l) > 1048576)) = .bool b) : b = decide (l.length > 1048576) := by
  rw [len_bv] at h
  rw [← Value.bool.inj h]
  by_cases e : l.length > 1048576
  · rw [decide_eq_true e, decide_eq_true (by omega)]
  · rw [decide_eq_false e, decide_eq_false (by omega)]
theorem str_one {ins : List Value} (ht : TypedL [.str] ins) : ∃ l, ins = [bv l] := by
  obtain ⟨v, r, rfl, hv, hr⟩ := TypedL_cons ht
  obtain rfl := TypedL_nil hr
  obtain ⟨l, rfl, _⟩ := str_of hv
  exact ⟨l, rfl⟩
theorem str_two {ins : List Value} (ht : TypedL [.str, .str] ins) : ∃ a b, ins = [bv a, bv b] := by
  obtain ⟨v, r, rfl, hv, hr⟩ := TypedL_cons ht
  obtain ⟨l, rfl, _⟩ := str_of hv
  obtain ⟨b, rfl⟩ := str_one hr
  exact ⟨l, b, rfl⟩
theorem str_ints {ins : List Value} (ht : TypedL [.str, .int .i64, .int .i64] ins) : ∃ a p q, ins = [bv a, .int .i64 p, .int .i64 q] ∧ I64 p ∧ I64 q := by
  obtain ⟨v, r, rfl, hv, hr⟩ := TypedL_cons ht
  obtain ⟨l, rfl, _⟩ := str_of hv
  obtain ⟨u, r2, rfl, hu, hr2⟩ := TypedL_cons hr
  obtain ⟨p, rfl, hp⟩ := hu
  obtain ⟨u, r3, rfl, hu, hr3⟩ := TypedL_cons hr2
  obtain ⟨q, rfl, hq⟩ := hu
  obtain rfl := TypedL_nil hr3
  exact ⟨l, p, q, rfl, (I64_iff _).1 hp, (I64_iff _).1 hq⟩
theorem seq_self (a : List UInt8) : ((strV (bv a)).toList == (strV (bv a)).toList) = true := by rw [seq_bv]; simp
theorem sat_FnBenchBack (P : Program) (cb : CodeB) (hk : CodeOk cb) (ins : List Value) (K : List Value → Prop) (_ : TypedL [.sl] ins) (hp : (lawF cb).pre ins) (hK : K [.bool true]) : sat P (Ss_FnBenchBack cb) tr_FnBenchBack ins [] K := by
  refine law_bench (fun v l hl => ?_) hp hK
  refine evs_step (call_step rfl ⟨l, rfl, by omega, evs_nil ?_⟩)
  refine evs_step (call_step rfl ⟨l, rfl, evs_nil ?_⟩)
  cases hb : benchW l with
  | none =>
    have e : backV l = ([], false) := by unfold backV; rw [hb]
    rw [e]
    refine ite_t ?_ ?_
    · show (if toB (if toB (Value.bool (!(false == false))) = true then Value.bool true else Value.bool (!((strV (bv [])).toList == (strV (bv [])).toList))) = true then Value.bool true else Value.bool (!false)) = _
      rw [seq_self]; rfl
    · show K [if toB (Value.bool (false == false)) = true then Value.bool ((strV (bv [])).toList == (strV (bv [])).toList) else .bool false]
      rw [seq_self]
      exact hK
  | some ps =>
    have h12 := (benchW_some hb).1
    have e : backV l = (joinB 32 (ps.reverse.map Pc.t), true) := by unfold backV; rw [hb]
    have hbk := benchW_back hb
    have e2 : backV (joinB 32 (ps.reverse.map Pc.t)) = (l, true) := by
      unfold backV
      rw [hbk]
      dsimp only
      rw [List.reverse_reverse, benchW_join hb]
    have hlen := benchW_length hbk
    have p1 : piecesV l = (ps.length : Int) := by unfold piecesV; rw [hb]
    have p2 : piecesV (joinB 32 (ps.reverse.map Pc.t)) = (ps.length : Int) := by unfold piecesV; rw [hbk]; simp
    rw [e]
    generalize joinB 32 (ps.reverse.map Pc.t) = o at *
    refine ite_f ?_ ?_
    · show (if toB (if toB (Value.bool (!(true == true))) = true then Value.bool true else Value.bool (!((strV (bv o)).toList == (strV (bv o)).toList))) = true then Value.bool true else Value.bool (!true)) = _
      rw [seq_self]; rfl
    refine evs_step (call_step rfl ⟨o, rfl, by omega, evs_nil ?_⟩)
    rw [e2]
    have hg : ∀ x : Value, toB (if toB (Value.bool true) = true then Value.bool ((strV (bv l)).toList == (strV (bv l)).toList) else .bool false) = true := fun _ => by rw [seq_self]; rfl
    refine evs_step (callg_step rfl (fun _ => ⟨o, rfl, by omega, ?_⟩) (fun h => ?_))
    · refine callg_step rfl (fun _ => ⟨l, rfl, by omega, evs_nil ?_⟩) (fun h => ?_)
      · rw [p1, p2]
        show K [if toB (if toB (Value.bool true) = true then Value.bool ((strV (bv l)).toList == (strV (bv l)).toList) else .bool false) = true then Value.bool ((ps.length : Int) == (ps.length : Int)) else .bool false]
        rw [seq_self]
        simpa using hK
      · exact absurd ((hg undef).symm.trans h) (by simp)
    · exact absurd ((hg undef).symm.trans h) (by simp)

end Go.Sx

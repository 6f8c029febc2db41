/- What the functions reckon, by their trees. -/
import Derived.Test.YtnlgkipjpbdodaaDoorEe
import Derived.KernelRfl
namespace Go.Sx
open Go
set_option maxRecDepth 100000
set_option linter.unusedSimpArgs false
set_option linter.unusedVariables false

def tr_size : Tr :=
  (.ret [(.mx false .i64 (.var 0) (.ar .sub .i64 (.int .i64 0) (.var 0)))])
def Fs_size : List Fun1 := []
def F_size : Fun1 := ofTree Fs_size tr_size

def tr_within : Tr :=
  (.ret [(.ite (.cmp .geq (.var 0) (.var 1)) (.cmp .leq (.var 0) (.var 2)) (.bool false))])
def Fs_within : List Fun1 := []
def F_within : Fun1 := ofTree Fs_within tr_within
def G_within : Fun1 := ⟨fun _ => True, fun ins => [.bool (inRg (i0 ins 0) (i0 ins 1) (i0 ins 2))]⟩
theorem as_within (ins : List Value) (ht : TypedL [.int .i64, .int .i64, .int .i64] ins) (_ : G_within.pre ins) : F_within.pre ins ∧ F_within.out ins = G_within.out ins := by
  obtain ⟨a, b, c, rfl, _, _, _⟩ := ints3 ht
  refine ⟨trivial, ?_⟩
  show [if (decide (a ≥ b)) = true then Value.bool (decide (a ≤ c)) else Value.bool false] = [Value.bool (decide (b ≤ a) && decide (a ≤ c))]
  by_cases h : b ≤ a <;> simp [h]

def tr_l6In : Tr :=
  (.ret [(.ite (.cmp .geq (.var 0) (.var 1)) (.cmp .leq (.var 0) (.var 2)) (.bool false))])
def Fs_l6In : List Fun1 := []
def F_l6In : Fun1 := ofTree Fs_l6In tr_l6In
def G_l6In : Fun1 := ⟨fun _ => True, fun ins => [.bool (inRg (i0 ins 0) (i0 ins 1) (i0 ins 2))]⟩
theorem as_l6In (ins : List Value) (ht : TypedL [.int .i64, .int .i64, .int .i64] ins) (_ : G_l6In.pre ins) : F_l6In.pre ins ∧ F_l6In.out ins = G_l6In.out ins := by
  obtain ⟨a, b, c, rfl, _, _, _⟩ := ints3 ht
  refine ⟨trivial, ?_⟩
  show [if (decide (a ≥ b)) = true then Value.bool (decide (a ≤ c)) else Value.bool false] = [Value.bool (decide (b ≤ a) && decide (a ≤ c))]
  by_cases h : b ≤ a <;> simp [h]
def A_l6In : AF := aAny 1
theorem aok_l6In {cb : CodeB} : AOK cb G_l6In A_l6In := aAny_ok (fun _ => trivial) (fun ins => by rfl)

def tr_l2In : Tr :=
  (.evs [.call 0 [(.var 0), (.int .i64 (-2000000000)), (.int .i64 2000000000)] none 1]
  (.ret [(.var 1)]))
def Fs_l2In : List Fun1 := [G_l6In]
def F_l2In : Fun1 := ofTree Fs_l2In tr_l2In
def G_l2In : Fun1 := ⟨fun _ => True, fun ins => [.bool (inR (i0 ins 0))]⟩
theorem as_l2In (ins : List Value) (ht : TypedL [.int .i64] ins) (_ : G_l2In.pre ins) : F_l2In.pre ins ∧ F_l2In.out ins = G_l2In.out ins := by
  obtain ⟨a, rfl, _⟩ := ints1 ht
  exact ⟨⟨⟨trivial, trivial⟩, trivial⟩, rfl⟩

def tr_divisor : Tr :=
  (.lp 0 [(.var 0), (.var 1)] [.int .i64, .int .i64]
  (.ite (.cmp .neq (.var 3) (.int .i64 0))
   (.evs [.need [(.cmp .neq (.var 3) (.int .i64 0))]]
    (.next 0 [(.var 3), (.ar .rem .i64 (.var 2) (.var 3))]))
   (.ret [(.var 2)])))
def Fs_divisor : List Fun1 := []
def F_divisor : Fun1 := ⟨fun _ => True, fun ins => [.int .i64 (euc (i0 ins 0) (i0 ins 1))]⟩
theorem sat_divisor (P : Program) (ins : List Value) (K : List Value → Prop) (ht : TypedL [.int .i64, .int .i64] ins) (_ : F_divisor.pre ins) (hK : K (F_divisor.out ins)) : sat P (specsOf Fs_divisor) tr_divisor ins [] K := by
  obtain ⟨a, b, rfl, wa, wb⟩ := ints2 ht
  refine ⟨fun vs => ∃ x y, vs = [.int .i64 x, .int .i64 y] ∧ euc x y = euc a b, fun vs => (toI (vs.getD 1 undef)).natAbs, ⟨a, b, rfl, rfl⟩, ?_⟩
  rintro vs hty ⟨x, y, rfl, he⟩
  refine ⟨fun hc => ?_, fun hc => ?_⟩
  · have hy : y ≠ 0 := by simpa [ev, cmpI] using hc
    refine ⟨fun e he' => by rw [List.mem_singleton.1 he']; exact hc, ⟨_, _, rfl, ?_⟩, ?_⟩
    · rw [← he, euc_step hy]; rfl
    · show (x.tmod y).natAbs < y.natAbs
      rw [Int.natAbs_tmod]
      exact Nat.mod_lt _ (by omega)
  · have hy : y = 0 := by simpa [ev, cmpI] using hc
    subst hy
    rw [euc_zero] at he
    show K [.int .i64 x]
    rw [he]
    exact hK

def tr_l2Gcd : Tr :=
  (.lp 0 [(.var 0), (.var 1)] [.int .i64, .int .i64]
  (.ite (.cmp .neq (.var 3) (.int .i64 0))
   (.evs [.need [(.cmp .neq (.var 3) (.int .i64 0))]]
    (.next 0 [(.var 3), (.ar .rem .i64 (.var 2) (.var 3))]))
   (.ret [(.mx false .i64 (.var 2) (.ar .sub .i64 (.int .i64 0) (.var 2)))])))
def Fs_l2Gcd : List Fun1 := []
def F_l2Gcd : Fun1 := ⟨fun _ => True, fun ins => [.int .i64 (mxI false (euc (i0 ins 0) (i0 ins 1)) (IntKind.i64.wrap (0 - euc (i0 ins 0) (i0 ins 1))))]⟩
theorem sat_l2Gcd (P : Program) (ins : List Value) (K : List Value → Prop) (ht : TypedL [.int .i64, .int .i64] ins) (_ : F_l2Gcd.pre ins) (hK : K (F_l2Gcd.out ins)) : sat P (specsOf Fs_l2Gcd) tr_l2Gcd ins [] K := by
  obtain ⟨a, b, rfl, wa, wb⟩ := ints2 ht
  refine ⟨fun vs => ∃ x y, vs = [.int .i64 x, .int .i64 y] ∧ euc x y = euc a b, fun vs => (toI (vs.getD 1 undef)).natAbs, ⟨a, b, rfl, rfl⟩, ?_⟩
  rintro vs hty ⟨x, y, rfl, he⟩
  refine ⟨fun hc => ?_, fun hc => ?_⟩
  · have hy : y ≠ 0 := by simpa [ev, cmpI] using hc
    refine ⟨fun e he' => by rw [List.mem_singleton.1 he']; exact hc, ⟨_, _, rfl, ?_⟩, ?_⟩
    · rw [← he, euc_step hy]; rfl
    · show (x.tmod y).natAbs < y.natAbs
      rw [Int.natAbs_tmod]
      exact Nat.mod_lt _ (by omega)
  · have hy : y = 0 := by simpa [ev, cmpI] using hc
    subst hy
    rw [euc_zero] at he
    show K [.int .i64 (mxI false x (IntKind.i64.wrap (0 - x)))]
    rw [he]
    exact hK

def tr_lowest : Tr :=
  (.evs [.call 0 [(.var 0)] none 1,
    .call 0 [(.var 1)] none 1,
    .call 1 [(.var 3), (.var 4)] none 1,
    .call 1 [(.var 5), (.var 2)] none 1]
  (.evs [.need [(.cmp .neq (.var 6) (.int .i64 0)), (.cmp .neq (.var 6) (.int .i64 0)), (.cmp .neq (.var 6) (.int .i64 0))]]
  (.evs [.call 2 [(.ar .quo .i64 (.var 0) (.var 6)), (.int .i64 (-2000000000)), (.int .i64 2000000000)] none 1,
    .call 2 [(.ar .quo .i64 (.var 1) (.var 6)), (.int .i64 (-2000000000)), (.int .i64 2000000000)] (some (.not (.not (.var 7)))) 1]
  (.ite (.ite (.ite (.not (.var 7)) (.bool true) (.not (.var 8))) (.bool true) (.cmp .gtr (.ar .quo .i64 (.var 2) (.var 6)) (.int .i64 2000000000)))
  (.ret [(.int .i64 0), (.int .i64 0), (.int .i64 0), (.bool false)])
  (.ret [(.ar .quo .i64 (.var 0) (.var 6)), (.ar .quo .i64 (.var 1) (.var 6)), (.ar .quo .i64 (.var 2) (.var 6)), (.bool true)])))))
def Fs_lowest : List Fun1 := [F_size, F_divisor, G_within]
def F_lowest : Fun1 := ofTree Fs_lowest tr_lowest
def G_lowest : Fun1 := ⟨fun ins => lowOk (i0 ins 0) (i0 ins 1) (i0 ins 2), fun ins => fr4 (lowI (i0 ins 0) (i0 ins 1) (i0 ins 2))⟩
theorem as_lowest (ins : List Value) (ht : TypedL [.int .i64, .int .i64, .int .i64] ins) (hp : G_lowest.pre ins) : F_lowest.pre ins ∧ F_lowest.out ins = G_lowest.out ins := by
  obtain ⟨a, b, c, rfl, wa, wb, wc⟩ := ints3 ht
  obtain ⟨p1, p2, p3, p4, p5, p6⟩ : lowOk a b c := hp
  have e1 := size_abs ⟨p1, p2⟩
  have e2 := size_abs ⟨p3, p4⟩
  have e3 : euc (a.natAbs : Nat) (b.natAbs : Nat) = (Nat.gcd a.natAbs b.natAbs : Nat) := euc_nat _ _
  have e4 : euc (Nat.gcd a.natAbs b.natAbs : Nat) c = (gcd3 a b c : Nat) := by rw [euc_eq (by omega) (by omega)]; rfl
  have hg : gcd3 a b c ≠ 0 := by have := gcd3_pos (a := a) (b := b) p5; omega
  have hgi : ((gcd3 a b c : Nat) : Int) ≠ 0 := by omega
  have q1 := quo_ok (g := gcd3 a b c) ⟨p1, p2⟩
  have q2 := quo_ok (g := gcd3 a b c) ⟨p3, p4⟩
  have q3 := quo_ok (a := c) (g := gcd3 a b c) ⟨by omega, p6⟩
  simp only [F_lowest, G_lowest, tr_lowest, Fs_lowest, F_size, tr_size, Fs_size, F_divisor, G_within, lowI, arI, ofTree, okT, okE, evalT, evalE, evsIn, ev, callF, preF, hasF, needs, i0, b0, toI_int, toB_bool, List.getD_cons_zero, List.getD_cons_succ, List.cons_append, List.nil_append, List.replicate, if_true, if_false, Bool.false_eq_true, and_true, true_and, implies_true, forall_const, false_implies, cmpI, Bool.not_true, Bool.not_false, Bool.true_and, Bool.false_and, Bool.and_true, Bool.and_false, reduceIte, List.append_nil, reduceCtorEq, e1, e2, e3, e4, q1, q2, q3]
  have r1 : ∀ z, inRg z (-2000000000) 2000000000 = inR z := fun _ => rfl
  simp only [r1]
  cases h1 : inR (a.tdiv (gcd3 a b c)) <;> cases h2 : inR (b.tdiv (gcd3 a b c)) <;> by_cases h3 : c.tdiv (gcd3 a b c) ≤ 2000000000 <;> simp [h1, h2, h3, hgi, hg, fr4, zq] <;> omega

def tr_sFracValid : Tr :=
  (.evs [.call 0 [(.var 0)] none 1,
    .call 0 [(.var 1)] (some (.var 3)) 1,
    .call 1 [(.var 2), (.int .i64 1), (.int .i64 2000000000)] (some (.ite (.var 3) (.var 4) (.bool false))) 1,
    .call 2 [(.var 2), (.var 0)] (some (.ite (.ite (.var 3) (.var 4) (.bool false)) (.var 5) (.bool false))) 1,
    .call 2 [(.var 6), (.var 1)] (some (.ite (.ite (.var 3) (.var 4) (.bool false)) (.var 5) (.bool false))) 1]
  (.ret [(.ite (.ite (.ite (.var 3) (.var 4) (.bool false)) (.var 5) (.bool false)) (.cmp .eql (.var 7) (.int .i64 1)) (.bool false))]))
def Fs_sFracValid : List Fun1 := [G_l2In, G_l6In, F_l2Gcd]
def F_sFracValid : Fun1 := ofTree Fs_sFracValid tr_sFracValid
def G_sFracValid : Fun1 := ⟨fun _ => True, fun ins => [.bool (validI (i0 ins 0) (i0 ins 1) (i0 ins 2))]⟩
theorem as_sFracValid (ins : List Value) (ht : TypedL [.int .i64, .int .i64, .int .i64] ins) (_ : G_sFracValid.pre ins) : F_sFracValid.pre ins ∧ F_sFracValid.out ins = G_sFracValid.out ins := by
  obtain ⟨a, b, c, rfl, wa, wb, wc⟩ := ints3 ht
  have key : inR a = true → inR b = true → inRg c 1 2000000000 = true → mxI false (euc c a) (IntKind.i64.wrap (0 - euc c a)) = (Nat.gcd c.natAbs a.natAbs : Nat) ∧
      mxI false (euc (Nat.gcd c.natAbs a.natAbs : Nat) b) (IntKind.i64.wrap (0 - euc (Nat.gcd c.natAbs a.natAbs : Nat) b)) = (gcd3 a b c : Nat) := by
    intro ha hb hc
    simp only [inR, inRg, Bool.and_eq_true, decide_eq_true_eq] at ha hb hc
    have h0 : Nat.gcd c.natAbs a.natAbs ≤ c.natAbs := Nat.gcd_le_left _ (by omega)
    have hp : 0 < Nat.gcd c.natAbs a.natAbs := Nat.gcd_pos_of_pos_left _ (by omega)
    refine ⟨gcd_small (by omega), ?_⟩
    have h2 : Nat.gcd ((Nat.gcd c.natAbs a.natAbs : Nat) : Int).natAbs b.natAbs ≤ Nat.gcd c.natAbs a.natAbs := Nat.gcd_le_left _ hp
    rw [gcd_small (by omega), Int.natAbs_natCast, gcd3_alt]
  simp only [F_sFracValid, G_sFracValid, tr_sFracValid, Fs_sFracValid, G_l2In, G_l6In, F_l2Gcd, validI, ofTree, okT, okE, evalT, evalE, evsIn, ev, callF, preF, hasF, needs, i0, b0, toI_int, toB_bool, List.getD_cons_zero, List.getD_cons_succ, List.cons_append, List.nil_append, List.replicate, if_true, if_false, Bool.false_eq_true, and_true, true_and, implies_true, forall_const, false_implies, cmpI, Bool.not_true, Bool.not_false, Bool.true_and, Bool.false_and, Bool.and_true, Bool.and_false, reduceIte, List.append_nil, reduceCtorEq]
  cases ha : inR a
  · simp [ha]
  · cases hb : inR b
    · simp [ha, hb]
    · cases hc : inRg c 1 2000000000
      · simp [ha, hb, hc]
      · obtain ⟨k1, k2⟩ := key ha hb hc
        simp only [ha, hb, hc, k1, k2, ofTree, okT, okE, evalT, evalE, evsIn, ev, callF, preF, hasF, needs, i0, b0, toI_int, toB_bool, List.getD_cons_zero, List.getD_cons_succ, List.cons_append, List.nil_append, List.replicate, if_true, if_false, Bool.false_eq_true, and_true, true_and, implies_true, forall_const, false_implies, cmpI, Bool.not_true, Bool.not_false, Bool.true_and, Bool.false_and, Bool.and_true, Bool.and_false, reduceIte, List.append_nil, reduceCtorEq]
        simp
        by_cases h1 : gcd3 a b c = 1
        · simp [h1]
        · rw [beq_eq_false_iff_ne.2 h1, beq_eq_false_iff_ne]
          omega

def tr_l2Low : Tr :=
  (.evs [.call 0 [(.var 2), (.var 0)] none 1,
    .call 0 [(.var 3), (.var 1)] none 1]
  (.evs [.need [(.cmp .neq (.var 4) (.int .i64 0)), (.cmp .neq (.var 4) (.int .i64 0)), (.cmp .neq (.var 4) (.int .i64 0))]]
  (.evs [.call 1 [(.ar .quo .i64 (.var 0) (.var 4)), (.ar .quo .i64 (.var 1) (.var 4)), (.ar .quo .i64 (.var 2) (.var 4))] none 1]
  (.ite (.not (.var 5))
  (.ret [(.int .i64 0), (.int .i64 0), (.int .i64 0), (.bool false)])
  (.ret [(.ar .quo .i64 (.var 0) (.var 4)), (.ar .quo .i64 (.var 1) (.var 4)), (.ar .quo .i64 (.var 2) (.var 4)), (.bool true)])))))
def Fs_l2Low : List Fun1 := [F_l2Gcd, G_sFracValid]
def F_l2Low : Fun1 := ofTree Fs_l2Low tr_l2Low
def G_l2Low : Fun1 := ⟨fun ins => lowOk (i0 ins 0) (i0 ins 1) (i0 ins 2), fun ins => fr4 (lowI (i0 ins 0) (i0 ins 1) (i0 ins 2))⟩
theorem as_l2Low (ins : List Value) (ht : TypedL [.int .i64, .int .i64, .int .i64] ins) (hp : G_l2Low.pre ins) : F_l2Low.pre ins ∧ F_l2Low.out ins = G_l2Low.out ins := by
  obtain ⟨a, b, c, rfl, wa, wb, wc⟩ := ints3 ht
  obtain ⟨p1, p2, p3, p4, p5, p6⟩ : lowOk a b c := hp
  have hc0 : 0 < c.natAbs := by omega
  have g1 : Nat.gcd c.natAbs a.natAbs ≤ c.natAbs := Nat.gcd_le_left _ hc0
  have gp : 0 < Nat.gcd c.natAbs a.natAbs := Nat.gcd_pos_of_pos_left _ hc0
  have e1 : mxI false (euc c a) (IntKind.i64.wrap (0 - euc c a)) = (Nat.gcd c.natAbs a.natAbs : Nat) := gcd_small (by omega)
  have g2 : Nat.gcd ((Nat.gcd c.natAbs a.natAbs : Nat) : Int).natAbs b.natAbs ≤ Nat.gcd c.natAbs a.natAbs := Nat.gcd_le_left _ gp
  have e2 : mxI false (euc (Nat.gcd c.natAbs a.natAbs : Nat) b) (IntKind.i64.wrap (0 - euc (Nat.gcd c.natAbs a.natAbs : Nat) b)) = (gcd3 a b c : Nat) := by
    rw [gcd_small (by omega), Int.natAbs_natCast, gcd3_alt]
  have hg : gcd3 a b c ≠ 0 := by have := gcd3_pos (a := a) (b := b) p5; omega
  have hgi : ((gcd3 a b c : Nat) : Int) ≠ 0 := by omega
  have q1 := quo_ok (g := gcd3 a b c) ⟨p1, p2⟩
  have q2 := quo_ok (g := gcd3 a b c) ⟨p3, p4⟩
  have q3 := quo_ok (a := c) (g := gcd3 a b c) ⟨by omega, p6⟩
  simp only [F_l2Low, G_l2Low, tr_l2Low, Fs_l2Low, F_l2Gcd, G_sFracValid, lowI, arI, ofTree, okT, okE, evalT, evalE, evsIn, ev, callF, preF, hasF, needs, i0, b0, toI_int, toB_bool, List.getD_cons_zero, List.getD_cons_succ, List.cons_append, List.nil_append, List.replicate, if_true, if_false, Bool.false_eq_true, and_true, true_and, implies_true, forall_const, false_implies, cmpI, Bool.not_true, Bool.not_false, Bool.true_and, Bool.false_and, Bool.and_true, Bool.and_false, reduceIte, List.append_nil, reduceCtorEq, e1, e2, q1, q2, q3, valid_low p5]
  cases h1 : inR (a.tdiv (gcd3 a b c)) <;> cases h2 : inR (b.tdiv (gcd3 a b c)) <;> by_cases h3 : c.tdiv (gcd3 a b c) ≤ 2000000000 <;> simp [h1, h2, h3, hgi, hg, fr4, zq] <;> omega
def A_l2Low : AF
  | [.itv a b, .itv c d, .itv e f] => if decide (-9223372036854775808 < a) && (decide (b ≤ 9223372036854775807) && (decide (-9223372036854775808 < c) && (decide (d ≤ 9223372036854775807) && (decide (1 ≤ e) && decide (f ≤ 9223372036854775807))))) then some [.any, .any, .any, .any] else none
  | _ => none
theorem aok_l2Low {cb : CodeB} : AOK cb G_l2Low A_l2Low := by
  intro I O h ins hi
  match I, ins, hi, h with
  | [.itv a b, .itv c d, .itv e f], [x, y, z], ⟨⟨x', hx, x1, x2⟩, ⟨y', hy, y1, y2⟩, ⟨z', hz, z1, z2⟩, _⟩, h =>
    simp only [A_l2Low] at h
    split at h
    · rename_i hc
      cases h
      simp only [Bool.and_eq_true, decide_eq_true_eq] at hc
      subst hx hy hz
      exact ⟨show lowOk x' y' z' by unfold lowOk; omega, trivial, trivial, trivial, trivial, trivial⟩
    · cases h

def tr_iFracValid : Tr :=
  (.evs [.call 0 [(.var 0), (.int .i64 (-2000000000)), (.int .i64 2000000000)] none 1,
    .call 0 [(.var 1), (.int .i64 (-2000000000)), (.int .i64 2000000000)] (some (.var 3)) 1,
    .call 0 [(.var 2), (.int .i64 1), (.int .i64 2000000000)] (some (.ite (.var 3) (.var 4) (.bool false))) 1,
    .call 2 [(.var 0)] (some (.ite (.ite (.var 3) (.var 4) (.bool false)) (.var 5) (.bool false))) 1,
    .call 2 [(.var 1)] (some (.ite (.ite (.var 3) (.var 4) (.bool false)) (.var 5) (.bool false))) 1,
    .call 1 [(.var 6), (.var 7)] (some (.ite (.ite (.var 3) (.var 4) (.bool false)) (.var 5) (.bool false))) 1,
    .call 1 [(.var 8), (.var 2)] (some (.ite (.ite (.var 3) (.var 4) (.bool false)) (.var 5) (.bool false))) 1]
  (.ret [(.ite (.ite (.ite (.var 3) (.var 4) (.bool false)) (.var 5) (.bool false)) (.cmp .eql (.var 9) (.int .i64 1)) (.bool false))]))
def Fs_iFracValid : List Fun1 := [G_within, F_divisor, F_size]
def F_iFracValid : Fun1 := ofTree Fs_iFracValid tr_iFracValid
def G_iFracValid : Fun1 := ⟨fun _ => True, fun ins => [.bool (validI (i0 ins 0) (i0 ins 1) (i0 ins 2))]⟩
theorem as_iFracValid (ins : List Value) (ht : TypedL [.int .i64, .int .i64, .int .i64] ins) (_ : G_iFracValid.pre ins) : F_iFracValid.pre ins ∧ F_iFracValid.out ins = G_iFracValid.out ins := by
  obtain ⟨a, b, c, rfl, wa, wb, wc⟩ := ints3 ht
  have key : inR a = true → inR b = true → inRg c 1 2000000000 = true → mxI false a (IntKind.i64.wrap (0 - a)) = a.natAbs ∧ mxI false b (IntKind.i64.wrap (0 - b)) = b.natAbs ∧
      euc (a.natAbs : Nat) (b.natAbs : Nat) = (Nat.gcd a.natAbs b.natAbs : Nat) ∧ euc (Nat.gcd a.natAbs b.natAbs : Nat) c = (gcd3 a b c : Nat) := by
    intro ha hb hc
    simp only [inR, inRg, Bool.and_eq_true, decide_eq_true_eq] at ha hb hc
    exact ⟨size_abs (by omega), size_abs (by omega), euc_nat _ _, by rw [euc_eq (by omega) (by omega)]; rfl⟩
  have r1 : ∀ z, inRg z (-2000000000) 2000000000 = inR z := fun _ => rfl
  cases ha : inR a
  · simp only [F_iFracValid, G_iFracValid, tr_iFracValid, Fs_iFracValid, G_within, F_divisor, F_size, tr_size, Fs_size, validI, arI, r1, ha, ofTree, okT, okE, evalT, evalE, evsIn, ev, callF, preF, hasF, needs, i0, b0, toI_int, toB_bool, List.getD_cons_zero, List.getD_cons_succ, List.cons_append, List.nil_append, List.replicate, if_true, if_false, Bool.false_eq_true, and_true, true_and, implies_true, forall_const, false_implies, cmpI, Bool.not_true, Bool.not_false, Bool.true_and, Bool.false_and, Bool.and_true, Bool.and_false, reduceIte, List.append_nil, reduceCtorEq]
  · cases hb : inR b
    · simp only [F_iFracValid, G_iFracValid, tr_iFracValid, Fs_iFracValid, G_within, F_divisor, F_size, tr_size, Fs_size, validI, arI, r1, ha, hb, ofTree, okT, okE, evalT, evalE, evsIn, ev, callF, preF, hasF, needs, i0, b0, toI_int, toB_bool, List.getD_cons_zero, List.getD_cons_succ, List.cons_append, List.nil_append, List.replicate, if_true, if_false, Bool.false_eq_true, and_true, true_and, implies_true, forall_const, false_implies, cmpI, Bool.not_true, Bool.not_false, Bool.true_and, Bool.false_and, Bool.and_true, Bool.and_false, reduceIte, List.append_nil, reduceCtorEq]
    · cases hc : inRg c 1 2000000000
      · simp only [F_iFracValid, G_iFracValid, tr_iFracValid, Fs_iFracValid, G_within, F_divisor, F_size, tr_size, Fs_size, validI, arI, r1, ha, hb, hc, ofTree, okT, okE, evalT, evalE, evsIn, ev, callF, preF, hasF, needs, i0, b0, toI_int, toB_bool, List.getD_cons_zero, List.getD_cons_succ, List.cons_append, List.nil_append, List.replicate, if_true, if_false, Bool.false_eq_true, and_true, true_and, implies_true, forall_const, false_implies, cmpI, Bool.not_true, Bool.not_false, Bool.true_and, Bool.false_and, Bool.and_true, Bool.and_false, reduceIte, List.append_nil, reduceCtorEq]
      · obtain ⟨k1, k2, k3, k4⟩ := key ha hb hc
        simp only [F_iFracValid, G_iFracValid, tr_iFracValid, Fs_iFracValid, G_within, F_divisor, F_size, tr_size, Fs_size, validI, arI, r1, ha, hb, hc, k1, k2, k3, k4, ofTree, okT, okE, evalT, evalE, evsIn, ev, callF, preF, hasF, needs, i0, b0, toI_int, toB_bool, List.getD_cons_zero, List.getD_cons_succ, List.cons_append, List.nil_append, List.replicate, if_true, if_false, Bool.false_eq_true, and_true, true_and, implies_true, forall_const, false_implies, cmpI, Bool.not_true, Bool.not_false, Bool.true_and, Bool.false_and, Bool.and_true, Bool.and_false, reduceIte, List.append_nil, reduceCtorEq]
        by_cases h1 : gcd3 a b c = 1
        · simp [h1]
        · have h2 : ((gcd3 a b c : Nat) : Int) ≠ 1 := by omega
          rw [beq_eq_false_iff_ne.2 h2, beq_eq_false_iff_ne.2 h1]

def tr_realOk : Tr :=
  (.evs [.call 0 [(.var 0), (.var 1), (.var 2)] none 1]
  (.ret [(.ite (.var 3) (.cmp .eql (.var 1) (.int .i64 0)) (.bool false))]))
def Fs_realOk : List Fun1 := [G_iFracValid]
def F_realOk : Fun1 := ofTree Fs_realOk tr_realOk
def G_realOk : Fun1 := ⟨fun _ => True, fun ins => [.bool (realQ (q3 ins 0))]⟩
theorem as_realOk (ins : List Value) (ht : TypedL [.int .i64, .int .i64, .int .i64] ins) (_ : G_realOk.pre ins) : F_realOk.pre ins ∧ F_realOk.out ins = G_realOk.out ins := by
  obtain ⟨a, b, c, rfl, wa, wb, wc⟩ := ints3 ht
  simp only [F_realOk, G_realOk, tr_realOk, Fs_realOk, G_iFracValid, realQ, validQ, q3, ofTree, okT, okE, evalT, evalE, evsIn, ev, callF, preF, hasF, needs, i0, b0, toI_int, toB_bool, List.getD_cons_zero, List.getD_cons_succ, List.cons_append, List.nil_append, List.replicate, if_true, if_false, Bool.false_eq_true, and_true, true_and, implies_true, forall_const, false_implies, cmpI, Bool.not_true, Bool.not_false, Bool.true_and, Bool.false_and, Bool.and_true, Bool.and_false, reduceIte, List.append_nil, reduceCtorEq]
  cases h : validI a b c <;> simp [h]

def tr_iFracAdd : Tr :=
  (.evs [.call 0 [(.var 0), (.var 1), (.var 2)] none 1,
    .call 0 [(.var 3), (.var 4), (.var 5)] (some (.not (.not (.var 6)))) 1]
  (.ite (.ite (.not (.var 6)) (.bool true) (.not (.var 7)))
  (.ret [(.int .i64 0), (.int .i64 0), (.int .i64 0), (.bool false)])
  (.evs [.call 1 [(.ar .add .i64 (.ar .mul .i64 (.var 0) (.var 5)) (.ar .mul .i64 (.var 3) (.var 2))), (.ar .add .i64 (.ar .mul .i64 (.var 1) (.var 5)) (.ar .mul .i64 (.var 4) (.var 2))), (.ar .mul .i64 (.var 2) (.var 5))] none 4]
   (.ret [(.var 8), (.var 9), (.var 10), (.var 11)]))))
def Fs_iFracAdd : List Fun1 := [G_iFracValid, G_lowest]
def F_iFracAdd : Fun1 := ofTree Fs_iFracAdd tr_iFracAdd
def G_iFracAdd : Fun1 := ⟨fun _ => True, fun ins => fr4 (addQ (q3 ins 0) (q3 ins 3))⟩
theorem as_iFracAdd (ins : List Value) (ht : TypedL [.int .i64, .int .i64, .int .i64, .int .i64, .int .i64, .int .i64] ins) (_ : G_iFracAdd.pre ins) : F_iFracAdd.pre ins ∧ F_iFracAdd.out ins = G_iFracAdd.out ins := by
  obtain ⟨a, b, c, x, y, z, rfl, _⟩ := ints6 ht
  simp only [F_iFracAdd, G_iFracAdd, tr_iFracAdd, Fs_iFracAdd, G_iFracValid, G_lowest, addQ, validQ, q3, arI, ofTree, okT, okE, evalT, evalE, evsIn, ev, callF, preF, hasF, needs, i0, b0, toI_int, toB_bool, List.getD_cons_zero, List.getD_cons_succ, List.cons_append, List.nil_append, List.replicate, if_true, if_false, Bool.false_eq_true, and_true, true_and, implies_true, forall_const, false_implies, cmpI, Bool.not_true, Bool.not_false, Bool.true_and, Bool.false_and, Bool.and_true, Bool.and_false, reduceIte, List.append_nil, reduceCtorEq]
  cases h : validI a b c
  · simp [h, fr4, zq]
  · cases k : validI x y z
    · simp [h, k, fr4, zq]
    · obtain ⟨e1, e2, e3, e4, e5, e6, e7, e8, e9, l1, l2⟩ := sum_facts h k
      simp only [h, k, e1, e2, e3, e4, e5, e6, e7, ofTree, okT, okE, evalT, evalE, evsIn, ev, callF, preF, hasF, needs, i0, b0, toI_int, toB_bool, List.getD_cons_zero, List.getD_cons_succ, List.cons_append, List.nil_append, List.replicate, if_true, if_false, Bool.false_eq_true, and_true, true_and, implies_true, forall_const, false_implies, cmpI, Bool.not_true, Bool.not_false, Bool.true_and, Bool.false_and, Bool.and_true, Bool.and_false, reduceIte, List.append_nil, reduceCtorEq]
      simp [fr4, l1]

def tr_iFracTimes : Tr :=
  (.evs [.call 0 [(.var 0), (.var 1), (.var 2)] none 1,
    .call 0 [(.var 3), (.var 4), (.var 5)] (some (.not (.not (.var 6)))) 1]
  (.ite (.ite (.not (.var 6)) (.bool true) (.not (.var 7)))
  (.ret [(.int .i64 0), (.int .i64 0), (.int .i64 0), (.bool false)])
  (.evs [.call 1 [(.ar .sub .i64 (.ar .mul .i64 (.var 0) (.var 3)) (.ar .mul .i64 (.var 1) (.var 4))), (.ar .add .i64 (.ar .mul .i64 (.var 0) (.var 4)) (.ar .mul .i64 (.var 1) (.var 3))), (.ar .mul .i64 (.var 2) (.var 5))] none 4]
   (.ret [(.var 8), (.var 9), (.var 10), (.var 11)]))))
def Fs_iFracTimes : List Fun1 := [G_iFracValid, G_lowest]
def F_iFracTimes : Fun1 := ofTree Fs_iFracTimes tr_iFracTimes
def G_iFracTimes : Fun1 := ⟨fun _ => True, fun ins => fr4 (timesQ (q3 ins 0) (q3 ins 3))⟩
theorem as_iFracTimes (ins : List Value) (ht : TypedL [.int .i64, .int .i64, .int .i64, .int .i64, .int .i64, .int .i64] ins) (_ : G_iFracTimes.pre ins) : F_iFracTimes.pre ins ∧ F_iFracTimes.out ins = G_iFracTimes.out ins := by
  obtain ⟨a, b, c, x, y, z, rfl, _⟩ := ints6 ht
  simp only [F_iFracTimes, G_iFracTimes, tr_iFracTimes, Fs_iFracTimes, G_iFracValid, G_lowest, timesQ, validQ, q3, arI, ofTree, okT, okE, evalT, evalE, evsIn, ev, callF, preF, hasF, needs, i0, b0, toI_int, toB_bool, List.getD_cons_zero, List.getD_cons_succ, List.cons_append, List.nil_append, List.replicate, if_true, if_false, Bool.false_eq_true, and_true, true_and, implies_true, forall_const, false_implies, cmpI, Bool.not_true, Bool.not_false, Bool.true_and, Bool.false_and, Bool.and_true, Bool.and_false, reduceIte, List.append_nil, reduceCtorEq]
  cases h : validI a b c
  · simp [h, fr4, zq]
  · cases k : validI x y z
    · simp [h, k, fr4, zq]
    · obtain ⟨e1, e2, e3, e4, e5, e6, e7, l1⟩ := mul_facts h k
      simp only [h, k, e1, e2, e3, e4, e5, e6, e7, ofTree, okT, okE, evalT, evalE, evsIn, ev, callF, preF, hasF, needs, i0, b0, toI_int, toB_bool, List.getD_cons_zero, List.getD_cons_succ, List.cons_append, List.nil_append, List.replicate, if_true, if_false, Bool.false_eq_true, and_true, true_and, implies_true, forall_const, false_implies, cmpI, Bool.not_true, Bool.not_false, Bool.true_and, Bool.false_and, Bool.and_true, Bool.and_false, reduceIte, List.append_nil, reduceCtorEq]
      simp [fr4, l1]

def tr_keep : Tr :=
  (.ite (.not (.var 3))
  (.ret [(.int .i64 0), (.int .i64 0), (.int .i64 0), (.bool true)])
  (.ret [(.var 0), (.var 1), (.var 2), (.var 4)]))
def Fs_keep : List Fun1 := []
def F_keep : Fun1 := ofTree Fs_keep tr_keep

def tr_add : Tr :=
  (.evs [.call 0 [(.var 0), (.var 1), (.var 2), (.var 3), (.var 4), (.var 5)] none 4,
    .call 1 [(.var 7), (.var 8), (.var 9), (.var 10), (.var 6)] none 4]
  (.ret [(.var 11), (.var 12), (.var 13), (.var 14)]))
def Fs_add : List Fun1 := [G_iFracAdd, F_keep]
def F_add : Fun1 := ofTree Fs_add tr_add
def G_add : Fun1 := ⟨fun _ => True, fun ins => fr3 (addQ (q3 ins 0) (q3 ins 3)) ++ [.bool (b0 ins 6 || !(addQ (q3 ins 0) (q3 ins 3)).isSome)]⟩
theorem as_add (ins : List Value) (ht : TypedL [.int .i64, .int .i64, .int .i64, .int .i64, .int .i64, .int .i64, .bool] ins) (_ : G_add.pre ins) : F_add.pre ins ∧ F_add.out ins = G_add.out ins := by
  obtain ⟨a, r1, rfl, _, ht1⟩ := int_cons ht
  obtain ⟨b, r2, rfl, _, ht2⟩ := int_cons ht1
  obtain ⟨c, r3, rfl, _, ht3⟩ := int_cons ht2
  obtain ⟨x, r4, rfl, _, ht4⟩ := int_cons ht3
  obtain ⟨y, r5, rfl, _, ht5⟩ := int_cons ht4
  obtain ⟨z, r6, rfl, _, ht6⟩ := int_cons ht5
  obtain ⟨t, r7, rfl, ht7⟩ := bool_cons ht6
  obtain rfl := ints0 ht7
  simp only [F_add, G_add, tr_add, Fs_add, G_iFracAdd, F_keep, tr_keep, Fs_keep, q3, fr4, fr3, ofTree, okT, okE, evalT, evalE, evsIn, ev, callF, preF, hasF, needs, i0, b0, toI_int, toB_bool, List.getD_cons_zero, List.getD_cons_succ, List.cons_append, List.nil_append, List.replicate, if_true, if_false, Bool.false_eq_true, and_true, true_and, implies_true, forall_const, false_implies, cmpI, Bool.not_true, Bool.not_false, Bool.true_and, Bool.false_and, Bool.and_true, Bool.and_false, reduceIte, List.append_nil, reduceCtorEq]
  cases h : addQ (a, b, c) (x, y, z) <;> simp [zq]

def tr_times : Tr :=
  (.evs [.call 0 [(.var 0), (.var 1), (.var 2), (.var 3), (.var 4), (.var 5)] none 4,
    .call 1 [(.var 7), (.var 8), (.var 9), (.var 10), (.var 6)] none 4]
  (.ret [(.var 11), (.var 12), (.var 13), (.var 14)]))
def Fs_times : List Fun1 := [G_iFracTimes, F_keep]
def F_times : Fun1 := ofTree Fs_times tr_times
def G_times : Fun1 := ⟨fun _ => True, fun ins => fr3 (timesQ (q3 ins 0) (q3 ins 3)) ++ [.bool (b0 ins 6 || !(timesQ (q3 ins 0) (q3 ins 3)).isSome)]⟩
theorem as_times (ins : List Value) (ht : TypedL [.int .i64, .int .i64, .int .i64, .int .i64, .int .i64, .int .i64, .bool] ins) (_ : G_times.pre ins) : F_times.pre ins ∧ F_times.out ins = G_times.out ins := by
  obtain ⟨a, r1, rfl, _, ht1⟩ := int_cons ht
  obtain ⟨b, r2, rfl, _, ht2⟩ := int_cons ht1
  obtain ⟨c, r3, rfl, _, ht3⟩ := int_cons ht2
  obtain ⟨x, r4, rfl, _, ht4⟩ := int_cons ht3
  obtain ⟨y, r5, rfl, _, ht5⟩ := int_cons ht4
  obtain ⟨z, r6, rfl, _, ht6⟩ := int_cons ht5
  obtain ⟨t, r7, rfl, ht7⟩ := bool_cons ht6
  obtain rfl := ints0 ht7
  simp only [F_times, G_times, tr_times, Fs_times, G_iFracTimes, F_keep, tr_keep, Fs_keep, q3, fr4, fr3, ofTree, okT, okE, evalT, evalE, evsIn, ev, callF, preF, hasF, needs, i0, b0, toI_int, toB_bool, List.getD_cons_zero, List.getD_cons_succ, List.cons_append, List.nil_append, List.replicate, if_true, if_false, Bool.false_eq_true, and_true, true_and, implies_true, forall_const, false_implies, cmpI, Bool.not_true, Bool.not_false, Bool.true_and, Bool.false_and, Bool.and_true, Bool.and_false, reduceIte, List.append_nil, reduceCtorEq]
  cases h : timesQ (a, b, c) (x, y, z) <;> simp [zq]

def tr_need : Tr :=
  (.ite (.not (.var 0))
  (.ret [(.bool true)])
  (.ret [(.var 1)]))
def Fs_need : List Fun1 := []
def F_need : Fun1 := ofTree Fs_need tr_need
def G_need : Fun1 := ⟨fun _ => True, fun ins => [.bool (b0 ins 1 || !b0 ins 0)]⟩
theorem as_need (ins : List Value) (ht : TypedL [.bool, .bool] ins) (_ : G_need.pre ins) : F_need.pre ins ∧ F_need.out ins = G_need.out ins := by
  obtain ⟨s, r1, rfl, ht1⟩ := bool_cons ht
  obtain ⟨t, r2, rfl, ht2⟩ := bool_cons ht1
  obtain rfl := ints0 ht2
  simp only [F_need, G_need, tr_need, Fs_need, ofTree, okT, okE, evalT, evalE, evsIn, ev, callF, preF, hasF, needs, i0, b0, toI_int, toB_bool, List.getD_cons_zero, List.getD_cons_succ, List.cons_append, List.nil_append, List.replicate, if_true, if_false, Bool.false_eq_true, and_true, true_and, implies_true, forall_const, false_implies, cmpI, Bool.not_true, Bool.not_false, Bool.true_and, Bool.false_and, Bool.and_true, Bool.and_false, reduceIte, List.append_nil, reduceCtorEq]
  cases s <;> cases t <;> simp

def tr_iTableValid : Tr :=
  (.evs [.call 0 [(.var 0), (.var 1), (.var 2)] none 1]
  (.ite (.not (.var 48))
  (.ret [(.bool false)])
  (.evs [.call 0 [(.var 3), (.var 4), (.var 5)] none 1]
   (.ite (.not (.var 49))
   (.ret [(.bool false)])
   (.evs [.call 0 [(.var 6), (.var 7), (.var 8)] none 1]
    (.ite (.not (.var 50))
    (.ret [(.bool false)])
    (.evs [.call 0 [(.var 9), (.var 10), (.var 11)] none 1]
     (.ite (.not (.var 51))
     (.ret [(.bool false)])
     (.evs [.call 0 [(.var 12), (.var 13), (.var 14)] none 1]
      (.ite (.not (.var 52))
      (.ret [(.bool false)])
      (.evs [.call 0 [(.var 15), (.var 16), (.var 17)] none 1]
       (.ite (.not (.var 53))
       (.ret [(.bool false)])
       (.evs [.call 0 [(.var 18), (.var 19), (.var 20)] none 1]
        (.ite (.not (.var 54))
        (.ret [(.bool false)])
        (.evs [.call 0 [(.var 21), (.var 22), (.var 23)] none 1]
         (.ite (.not (.var 55))
         (.ret [(.bool false)])
         (.evs [.call 0 [(.var 24), (.var 25), (.var 26)] none 1]
          (.ite (.not (.var 56))
          (.ret [(.bool false)])
          (.evs [.call 0 [(.var 27), (.var 28), (.var 29)] none 1]
           (.ite (.not (.var 57))
           (.ret [(.bool false)])
           (.evs [.call 0 [(.var 30), (.var 31), (.var 32)] none 1]
            (.ite (.not (.var 58))
            (.ret [(.bool false)])
            (.evs [.call 0 [(.var 33), (.var 34), (.var 35)] none 1]
             (.ite (.not (.var 59))
             (.ret [(.bool false)])
             (.evs [.call 0 [(.var 36), (.var 37), (.var 38)] none 1]
              (.ite (.not (.var 60))
              (.ret [(.bool false)])
              (.evs [.call 0 [(.var 39), (.var 40), (.var 41)] none 1]
               (.ite (.not (.var 61))
               (.ret [(.bool false)])
               (.evs [.call 0 [(.var 42), (.var 43), (.var 44)] none 1]
                (.ite (.not (.var 62))
                (.ret [(.bool false)])
                (.evs [.call 0 [(.var 45), (.var 46), (.var 47)] none 1]
                 (.ite (.not (.var 63))
                 (.ret [(.bool false)])
                 (.ret [(.bool true)])))))))))))))))))))))))))))))))))
def Fs_iTableValid : List Fun1 := [G_realOk]
def F_iTableValid : Fun1 := ofTree Fs_iTableValid tr_iTableValid
def G_iTableValid : Fun1 := ⟨fun _ => True, fun ins => [.bool (tabQ fun k => q3 ins (3 * k))]⟩
theorem out_iTableValid : (fun (g : Nat → Int) => F_iTableValid.out (ivs g 0 48)) = fun g => nestC (fun k => .bool (!realQ (q3 (ivs g 0 48) (3 * k)))) 0 16 := by kernel_rfl
theorem as_iTableValid (ins : List Value) (ht : TypedL (intTs 48 ++ []) ins) (_ : G_iTableValid.pre ins) : F_iTableValid.pre ins ∧ F_iTableValid.out ins = G_iTableValid.out ins := by
  obtain ⟨g, r, rfl, h1, _⟩ := ints_lit 48 0 ht
  obtain rfl := ints0 h1
  rw [List.append_nil]
  refine ⟨okT_free (by intro F hF ins; simp only [Fs_iTableValid, List.mem_singleton] at hF; rw [hF]; trivial) _ _ (by kernel_rfl), (congrFun out_iTableValid g).trans ?_⟩
  exact nestC_eq (fun k => rfl) 16 0

def tr_gotStokes : Tr :=
  (.ite (.var 12)
  (.ret [(.int .i64 0), (.int .i64 0), (.int .i64 0), (.int .i64 0), (.int .i64 0), (.int .i64 0), (.int .i64 0), (.int .i64 0), (.int .i64 0), (.int .i64 0), (.int .i64 0), (.int .i64 0), (.bool false), (.var 12)])
  (.ret [(.var 0), (.var 1), (.var 2), (.var 3), (.var 4), (.var 5), (.var 6), (.var 7), (.var 8), (.var 9), (.var 10), (.var 11), (.bool true), (.var 12)]))
def Fs_gotStokes : List Fun1 := []
def F_gotStokes : Fun1 := ofTree Fs_gotStokes tr_gotStokes
def G_gotStokes : Fun1 := ⟨fun _ => True, fun ins => gotV (b0 ins 12) ins 0 12 ++ [.bool (!b0 ins 12), .bool (b0 ins 12)]⟩
theorem out_gotStokes : (fun (g : Nat → Int) => F_gotStokes.out (ivs g 0 12 ++ [.bool true])) = fun g => G_gotStokes.out (ivs g 0 12 ++ [.bool true]) := by kernel_rfl
theorem out_gotStokes' : (fun (g : Nat → Int) => F_gotStokes.out (ivs g 0 12 ++ [.bool false])) = fun g => G_gotStokes.out (ivs g 0 12 ++ [.bool false]) := by kernel_rfl
theorem as_gotStokes (ins : List Value) (ht : TypedL (intTs 12 ++ [.bool]) ins) (_ : G_gotStokes.pre ins) : F_gotStokes.pre ins ∧ F_gotStokes.out ins = G_gotStokes.out ins := by
  obtain ⟨g, r, rfl, h1, _⟩ := ints_lit 12 0 ht
  obtain ⟨b, r2, rfl, h2⟩ := bool_cons h1
  obtain rfl := ints0 h2
  cases b
  · exact ⟨trivial, congrFun out_gotStokes' g⟩
  · exact ⟨trivial, congrFun out_gotStokes g⟩

def tr_iStokesValid : Tr :=
  (.evs [.call 0 [(.var 0), (.var 1), (.var 2)] none 1]
  (.ite (.not (.var 12))
  (.ret [(.bool false)])
  (.evs [.call 0 [(.var 3), (.var 4), (.var 5)] none 1]
   (.ite (.not (.var 13))
   (.ret [(.bool false)])
   (.evs [.call 0 [(.var 6), (.var 7), (.var 8)] none 1]
    (.ite (.not (.var 14))
    (.ret [(.bool false)])
    (.evs [.call 0 [(.var 9), (.var 10), (.var 11)] none 1]
     (.ite (.not (.var 15))
     (.ret [(.bool false)])
     (.ret [(.bool true)])))))))))
def Fs_iStokesValid : List Fun1 := [G_realOk]
def F_iStokesValid : Fun1 := ofTree Fs_iStokesValid tr_iStokesValid
def G_iStokesValid : Fun1 := ⟨fun _ => True, fun ins => [.bool (stQ fun k => q3 ins (3 * k))]⟩
theorem out_iStokesValid : (fun (g : Nat → Int) => F_iStokesValid.out (ivs g 0 12)) = fun g => nestC (fun k => .bool (!realQ (q3 (ivs g 0 12) (3 * k)))) 0 4 := by kernel_rfl
theorem as_iStokesValid (ins : List Value) (ht : TypedL (intTs 12 ++ []) ins) (_ : G_iStokesValid.pre ins) : F_iStokesValid.pre ins ∧ F_iStokesValid.out ins = G_iStokesValid.out ins := by
  obtain ⟨g, r, rfl, h1, _⟩ := ints_lit 12 0 ht
  obtain rfl := ints0 h1
  rw [List.append_nil]
  refine ⟨okT_free (by intro F hF ins; simp only [Fs_iStokesValid, List.mem_singleton] at hF; rw [hF]; trivial) _ _ (by kernel_rfl), (congrFun out_iStokesValid g).trans ?_⟩
  exact nestC_eq (fun k => rfl) 4 0

def tr_iTableApply : Tr :=
  (.evs [.call 0 [(.var 0), (.var 1), (.var 2), (.var 3), (.var 4), (.var 5), (.var 6), (.var 7), (.var 8), (.var 9), (.var 10), (.var 11), (.var 12), (.var 13), (.var 14), (.var 15), (.var 16), (.var 17), (.var 18), (.var 19), (.var 20), (.var 21), (.var 22), (.var 23), (.var 24), (.var 25), (.var 26), (.var 27), (.var 28), (.var 29), (.var 30), (.var 31), (.var 32), (.var 33), (.var 34), (.var 35), (.var 36), (.var 37), (.var 38), (.var 39), (.var 40), (.var 41), (.var 42), (.var 43), (.var 44), (.var 45), (.var 46), (.var 47)] none 1,
    .call 1 [(.var 48), (.var 49), (.var 50), (.var 51), (.var 52), (.var 53), (.var 54), (.var 55), (.var 56), (.var 57), (.var 58), (.var 59)] (some (.var 60)) 1,
    .call 2 [(.ite (.var 60) (.var 61) (.bool false)), (.bool false)] none 1]
  (.evs [.call 3 [(.var 0), (.var 1), (.var 2), (.var 48), (.var 49), (.var 50), (.var 62)] none 4]
  (.evs [.call 3 [(.var 3), (.var 4), (.var 5), (.var 51), (.var 52), (.var 53), (.var 66)] none 4,
    .call 4 [(.var 63), (.var 64), (.var 65), (.var 67), (.var 68), (.var 69), (.var 70)] none 4]
  (.evs [.call 3 [(.var 6), (.var 7), (.var 8), (.var 54), (.var 55), (.var 56), (.var 74)] none 4,
    .call 4 [(.var 71), (.var 72), (.var 73), (.var 75), (.var 76), (.var 77), (.var 78)] none 4]
  (.evs [.call 3 [(.var 9), (.var 10), (.var 11), (.var 57), (.var 58), (.var 59), (.var 82)] none 4,
    .call 4 [(.var 79), (.var 80), (.var 81), (.var 83), (.var 84), (.var 85), (.var 86)] none 4]
  (.evs [.call 3 [(.var 12), (.var 13), (.var 14), (.var 48), (.var 49), (.var 50), (.var 90)] none 4]
  (.evs [.call 3 [(.var 15), (.var 16), (.var 17), (.var 51), (.var 52), (.var 53), (.var 94)] none 4,
    .call 4 [(.var 91), (.var 92), (.var 93), (.var 95), (.var 96), (.var 97), (.var 98)] none 4]
  (.evs [.call 3 [(.var 18), (.var 19), (.var 20), (.var 54), (.var 55), (.var 56), (.var 102)] none 4,
    .call 4 [(.var 99), (.var 100), (.var 101), (.var 103), (.var 104), (.var 105), (.var 106)] none 4]
  (.evs [.call 3 [(.var 21), (.var 22), (.var 23), (.var 57), (.var 58), (.var 59), (.var 110)] none 4,
    .call 4 [(.var 107), (.var 108), (.var 109), (.var 111), (.var 112), (.var 113), (.var 114)] none 4]
  (.evs [.call 3 [(.var 24), (.var 25), (.var 26), (.var 48), (.var 49), (.var 50), (.var 118)] none 4]
  (.evs [.call 3 [(.var 27), (.var 28), (.var 29), (.var 51), (.var 52), (.var 53), (.var 122)] none 4,
    .call 4 [(.var 119), (.var 120), (.var 121), (.var 123), (.var 124), (.var 125), (.var 126)] none 4]
  (.evs [.call 3 [(.var 30), (.var 31), (.var 32), (.var 54), (.var 55), (.var 56), (.var 130)] none 4,
    .call 4 [(.var 127), (.var 128), (.var 129), (.var 131), (.var 132), (.var 133), (.var 134)] none 4]
  (.evs [.call 3 [(.var 33), (.var 34), (.var 35), (.var 57), (.var 58), (.var 59), (.var 138)] none 4,
    .call 4 [(.var 135), (.var 136), (.var 137), (.var 139), (.var 140), (.var 141), (.var 142)] none 4]
  (.evs [.call 3 [(.var 36), (.var 37), (.var 38), (.var 48), (.var 49), (.var 50), (.var 146)] none 4]
  (.evs [.call 3 [(.var 39), (.var 40), (.var 41), (.var 51), (.var 52), (.var 53), (.var 150)] none 4,
    .call 4 [(.var 147), (.var 148), (.var 149), (.var 151), (.var 152), (.var 153), (.var 154)] none 4]
  (.evs [.call 3 [(.var 42), (.var 43), (.var 44), (.var 54), (.var 55), (.var 56), (.var 158)] none 4,
    .call 4 [(.var 155), (.var 156), (.var 157), (.var 159), (.var 160), (.var 161), (.var 162)] none 4]
  (.evs [.call 3 [(.var 45), (.var 46), (.var 47), (.var 57), (.var 58), (.var 59), (.var 166)] none 4,
    .call 4 [(.var 163), (.var 164), (.var 165), (.var 167), (.var 168), (.var 169), (.var 170)] none 4]
  (.evs [.call 5 [(.var 87), (.var 88), (.var 89), (.var 115), (.var 116), (.var 117), (.var 143), (.var 144), (.var 145), (.var 171), (.var 172), (.var 173), (.var 174)] none 14]
  (.ret [(.var 175), (.var 176), (.var 177), (.var 178), (.var 179), (.var 180), (.var 181), (.var 182), (.var 183), (.var 184), (.var 185), (.var 186), (.var 187)])))))))))))))))))))
def Fs_iTableApply : List Fun1 := [G_iTableValid, G_iStokesValid, G_need, G_times, G_add, G_gotStokes]
def F_iTableApply : Fun1 := ofTree Fs_iTableApply tr_iTableApply
def apQ (ins : List Value) : Bool := tabQ (fun k => q3 ins (3 * k)) && stQ (fun k => q3 ins (48 + 3 * k))
def apD (ins : List Value) (k : Nat) : Option Q := dotQ (rowF (fun k => q3 ins (3 * k)) k) (fun k => q3 ins (48 + 3 * k))
def G_iTableApply : Fun1 := ⟨fun _ => True, fun ins => nttW 4 (apQ ins) (apD ins)⟩
def taI (a b : Nat → Q) : List Q × Bool := cellsI (fun k s => cellI (rowF a k) b s) 0 4 (false || !andG (tabQ a) (stQ b))
theorem taI_fin (a b : Nat → Q) : gotL (taI a b).2 (taI a b).1 ++ [.bool (!(taI a b).2)] = nttV 4 (tabQ a && stQ b) (fun k => dotQ (rowF a k) b) := by
  unfold taI
  rw [andG_eq, Bool.false_or]
  exact nttI_eq (d := fun k => dotQ (rowF a k) b) (fun k s => cellI_spec _ _ s) 4 _
theorem out_iTableApply : (fun (g : Nat → Int) => evalT' Fs_iTableApply tr_iTableApply (ivs g 0 60)) = fun g =>
    gotL (taI (fun k => q3 (ivs g 0 60) (3 * k)) (fun k => q3 (ivs g 0 60) (48 + 3 * k))).2 (taI (fun k => q3 (ivs g 0 60) (3 * k)) (fun k => q3 (ivs g 0 60) (48 + 3 * k))).1 ++
      [.bool (!(taI (fun k => q3 (ivs g 0 60) (3 * k)) (fun k => q3 (ivs g 0 60) (48 + 3 * k))).2)] := by kernel_rfl
theorem as_iTableApply (ins : List Value) (ht : TypedL (intTs 60 ++ []) ins) (_ : G_iTableApply.pre ins) : F_iTableApply.pre ins ∧ F_iTableApply.out ins = G_iTableApply.out ins := by
  obtain ⟨g, r, rfl, h1, _⟩ := ints_lit 60 0 ht
  obtain rfl := ints0 h1
  rw [List.append_nil]
  refine ⟨okT_free (by intro F hF ins; simp only [Fs_iTableApply, List.mem_cons, List.not_mem_nil, or_false] at hF; rcases hF with rfl | rfl | rfl | rfl | rfl | rfl <;> trivial) _ _ (by kernel_rfl), (evalT_sel (lens := [1, 1]) (Lens.cons (fun _ => rfl) (Lens.cons (fun _ => rfl) Lens.nil)) _ _ (by kernel_rfl)).trans ((congrFun out_iTableApply g).trans ?_)⟩
  exact (taI_fin _ _).trans (nttV_eq _ _ _)

def tr_iFracLess : Tr :=
  (.evs [.call 0 [(.var 0), (.var 1), (.var 2)] none 1,
    .call 0 [(.var 3), (.var 4), (.var 5)] (some (.not (.not (.var 6)))) 1]
  (.ite (.ite (.not (.var 6)) (.bool true) (.not (.var 7)))
  (.ret [(.int .i64 0), (.int .i64 0), (.int .i64 0), (.bool false)])
  (.evs [.call 1 [(.ar .sub .i64 (.ar .mul .i64 (.var 0) (.var 5)) (.ar .mul .i64 (.var 3) (.var 2))), (.ar .sub .i64 (.ar .mul .i64 (.var 1) (.var 5)) (.ar .mul .i64 (.var 4) (.var 2))), (.ar .mul .i64 (.var 2) (.var 5))] none 4]
   (.ret [(.var 8), (.var 9), (.var 10), (.var 11)]))))
def Fs_iFracLess : List Fun1 := [G_iFracValid, G_lowest]
def F_iFracLess : Fun1 := ofTree Fs_iFracLess tr_iFracLess
def G_iFracLess : Fun1 := ⟨fun _ => True, fun ins => fr4 (lessQ (q3 ins 0) (q3 ins 3))⟩
theorem as_iFracLess (ins : List Value) (ht : TypedL [.int .i64, .int .i64, .int .i64, .int .i64, .int .i64, .int .i64] ins) (_ : G_iFracLess.pre ins) : F_iFracLess.pre ins ∧ F_iFracLess.out ins = G_iFracLess.out ins := by
  obtain ⟨a, b, c, x, y, z, rfl, _⟩ := ints6 ht
  simp only [F_iFracLess, G_iFracLess, tr_iFracLess, Fs_iFracLess, G_iFracValid, G_lowest, lessQ, validQ, q3, arI, ofTree, okT, okE, evalT, evalE, evsIn, ev, callF, preF, hasF, needs, i0, b0, toI_int, toB_bool, List.getD_cons_zero, List.getD_cons_succ, List.cons_append, List.nil_append, List.replicate, if_true, if_false, Bool.false_eq_true, and_true, true_and, implies_true, forall_const, false_implies, cmpI, Bool.not_true, Bool.not_false, Bool.true_and, Bool.false_and, Bool.and_true, Bool.and_false, reduceIte, List.append_nil, reduceCtorEq]
  cases h : validI a b c
  · simp [h, fr4, zq]
  · cases k : validI x y z
    · simp [h, k, fr4, zq]
    · obtain ⟨e1, e2, e3, e4, e5, e6, e7, e8, e9, l1, l2⟩ := sum_facts h k
      simp only [h, k, e1, e2, e3, e4, e5, e8, e9, ofTree, okT, okE, evalT, evalE, evsIn, ev, callF, preF, hasF, needs, i0, b0, toI_int, toB_bool, List.getD_cons_zero, List.getD_cons_succ, List.cons_append, List.nil_append, List.replicate, if_true, if_false, Bool.false_eq_true, and_true, true_and, implies_true, forall_const, false_implies, cmpI, Bool.not_true, Bool.not_false, Bool.true_and, Bool.false_and, Bool.and_true, Bool.and_false, reduceIte, List.append_nil, reduceCtorEq]
      simp [fr4, l2]

def tr_iFracMirror : Tr :=
  (.evs [.call 0 [(.var 0), (.var 1), (.var 2)] none 1]
  (.ite (.not (.var 3))
  (.ret [(.int .i64 0), (.int .i64 0), (.int .i64 0), (.bool false)])
  (.ret [(.var 0), (.ar .sub .i64 (.int .i64 0) (.var 1)), (.var 2), (.bool true)])))
def Fs_iFracMirror : List Fun1 := [G_iFracValid]
def F_iFracMirror : Fun1 := ofTree Fs_iFracMirror tr_iFracMirror
def G_iFracMirror : Fun1 := ⟨fun _ => True, fun ins => fr4 (mirQ (q3 ins 0))⟩
theorem as_iFracMirror (ins : List Value) (ht : TypedL [.int .i64, .int .i64, .int .i64] ins) (_ : G_iFracMirror.pre ins) : F_iFracMirror.pre ins ∧ F_iFracMirror.out ins = G_iFracMirror.out ins := by
  obtain ⟨a, b, c, rfl, _⟩ := ints3 ht
  simp only [F_iFracMirror, G_iFracMirror, tr_iFracMirror, Fs_iFracMirror, G_iFracValid, mirQ, validQ, q3, arI, ofTree, okT, okE, evalT, evalE, evsIn, ev, callF, preF, hasF, needs, i0, b0, toI_int, toB_bool, List.getD_cons_zero, List.getD_cons_succ, List.cons_append, List.nil_append, List.replicate, if_true, if_false, Bool.false_eq_true, and_true, true_and, implies_true, forall_const, false_implies, cmpI, Bool.not_true, Bool.not_false, Bool.true_and, Bool.false_and, Bool.and_true, Bool.and_false, reduceIte, List.append_nil, reduceCtorEq]
  cases h : validI a b c
  · simp [fr4, zq]
  · obtain ⟨b1, b2, b3⟩ := valid_bounds h
    have e : IntKind.i64.wrap (-b) = -b := wrap_in (by omega)
    simp [fr4, e]

def tr_iFracPower : Tr :=
  (.evs [.call 0 [(.var 0), (.var 1), (.var 2)] none 1]
  (.ite (.not (.var 3))
  (.ret [(.int .i64 0), (.int .i64 0), (.int .i64 0), (.bool false)])
  (.evs [.call 1 [(.ar .add .i64 (.ar .mul .i64 (.var 0) (.var 0)) (.ar .mul .i64 (.var 1) (.var 1))), (.int .i64 0), (.ar .mul .i64 (.var 2) (.var 2))] none 4]
   (.ret [(.var 4), (.var 5), (.var 6), (.var 7)]))))
def Fs_iFracPower : List Fun1 := [G_iFracValid, G_lowest]
def F_iFracPower : Fun1 := ofTree Fs_iFracPower tr_iFracPower
def G_iFracPower : Fun1 := ⟨fun _ => True, fun ins => fr4 (powQ (q3 ins 0))⟩
theorem as_iFracPower (ins : List Value) (ht : TypedL [.int .i64, .int .i64, .int .i64] ins) (_ : G_iFracPower.pre ins) : F_iFracPower.pre ins ∧ F_iFracPower.out ins = G_iFracPower.out ins := by
  obtain ⟨a, b, c, rfl, _⟩ := ints3 ht
  simp only [F_iFracPower, G_iFracPower, tr_iFracPower, Fs_iFracPower, G_iFracValid, G_lowest, powQ, validQ, q3, arI, ofTree, okT, okE, evalT, evalE, evsIn, ev, callF, preF, hasF, needs, i0, b0, toI_int, toB_bool, List.getD_cons_zero, List.getD_cons_succ, List.cons_append, List.nil_append, List.replicate, if_true, if_false, Bool.false_eq_true, and_true, true_and, implies_true, forall_const, false_implies, cmpI, Bool.not_true, Bool.not_false, Bool.true_and, Bool.false_and, Bool.and_true, Bool.and_false, reduceIte, List.append_nil, reduceCtorEq]
  cases h : validI a b c
  · simp [fr4, zq]
  · obtain ⟨b1, b2, b3⟩ := valid_bounds h
    have m1 := mulB b1 b1
    have m2 := mulB b2 b2
    have m3 := denB b3 b3
    have p1 := sq_nonneg a
    have p2 := sq_nonneg b
    have e1 : IntKind.i64.wrap (a * a) = a * a := wrap_in (by omega)
    have e2 : IntKind.i64.wrap (b * b) = b * b := wrap_in (by omega)
    have e3 : IntKind.i64.wrap (c * c) = c * c := wrap_in (by omega)
    have e4 : IntKind.i64.wrap (a * a + b * b) = a * a + b * b := wrap_in (by omega)
    have l : lowOk (a * a + b * b) 0 (c * c) := by unfold lowOk; omega
    simp [fr4, e1, e2, e3, e4, l]

def tr_whole2 : Tr :=
  (.ret [])
def Fs_whole2 : List Fun1 := []
def F_whole2 : Fun1 := ofTree Fs_whole2 tr_whole2

def tr_less : Tr :=
  (.evs [.call 0 [(.var 0), (.var 1), (.var 2), (.var 3), (.var 4), (.var 5)] none 4,
    .call 1 [(.var 7), (.var 8), (.var 9), (.var 10), (.var 6)] none 4]
  (.ret [(.var 11), (.var 12), (.var 13), (.var 14)]))
def Fs_less : List Fun1 := [G_iFracLess, F_keep]
def F_less : Fun1 := ofTree Fs_less tr_less
def G_less : Fun1 := ⟨fun _ => True, fun ins => fr3 (lessQ (q3 ins 0) (q3 ins 3)) ++ [.bool (b0 ins 6 || !(lessQ (q3 ins 0) (q3 ins 3)).isSome)]⟩
theorem as_less (ins : List Value) (ht : TypedL [.int .i64, .int .i64, .int .i64, .int .i64, .int .i64, .int .i64, .bool] ins) (_ : G_less.pre ins) : F_less.pre ins ∧ F_less.out ins = G_less.out ins := by
  obtain ⟨a, r1, rfl, _, ht1⟩ := int_cons ht
  obtain ⟨b, r2, rfl, _, ht2⟩ := int_cons ht1
  obtain ⟨c, r3, rfl, _, ht3⟩ := int_cons ht2
  obtain ⟨x, r4, rfl, _, ht4⟩ := int_cons ht3
  obtain ⟨y, r5, rfl, _, ht5⟩ := int_cons ht4
  obtain ⟨z, r6, rfl, _, ht6⟩ := int_cons ht5
  obtain ⟨t, r7, rfl, ht7⟩ := bool_cons ht6
  obtain rfl := ints0 ht7
  simp only [F_less, G_less, tr_less, Fs_less, G_iFracLess, F_keep, tr_keep, Fs_keep, q3, fr4, fr3, ofTree, okT, okE, evalT, evalE, evsIn, ev, callF, preF, hasF, needs, i0, b0, toI_int, toB_bool, List.getD_cons_zero, List.getD_cons_succ, List.cons_append, List.nil_append, List.replicate, if_true, if_false, Bool.false_eq_true, and_true, true_and, implies_true, forall_const, false_implies, cmpI, Bool.not_true, Bool.not_false, Bool.true_and, Bool.false_and, Bool.and_true, Bool.and_false, reduceIte, List.append_nil, reduceCtorEq]
  cases h : lessQ (a, b, c) (x, y, z) <;> simp [zq]

def tr_mirror : Tr :=
  (.evs [.call 0 [(.var 0), (.var 1), (.var 2)] none 4,
    .call 1 [(.var 4), (.var 5), (.var 6), (.var 7), (.var 3)] none 4]
  (.ret [(.var 8), (.var 9), (.var 10), (.var 11)]))
def Fs_mirror : List Fun1 := [G_iFracMirror, F_keep]
def F_mirror : Fun1 := ofTree Fs_mirror tr_mirror
def G_mirror : Fun1 := ⟨fun _ => True, fun ins => fr3 (mirQ (q3 ins 0)) ++ [.bool (b0 ins 3 || !(mirQ (q3 ins 0)).isSome)]⟩
theorem as_mirror (ins : List Value) (ht : TypedL [.int .i64, .int .i64, .int .i64, .bool] ins) (_ : G_mirror.pre ins) : F_mirror.pre ins ∧ F_mirror.out ins = G_mirror.out ins := by
  obtain ⟨a, r1, rfl, _, ht1⟩ := int_cons ht
  obtain ⟨b, r2, rfl, _, ht2⟩ := int_cons ht1
  obtain ⟨c, r3, rfl, _, ht3⟩ := int_cons ht2
  obtain ⟨t, r7, rfl, ht7⟩ := bool_cons ht3
  obtain rfl := ints0 ht7
  simp only [F_mirror, G_mirror, tr_mirror, Fs_mirror, G_iFracMirror, F_keep, tr_keep, Fs_keep, q3, fr4, fr3, ofTree, okT, okE, evalT, evalE, evsIn, ev, callF, preF, hasF, needs, i0, b0, toI_int, toB_bool, List.getD_cons_zero, List.getD_cons_succ, List.cons_append, List.nil_append, List.replicate, if_true, if_false, Bool.false_eq_true, and_true, true_and, implies_true, forall_const, false_implies, cmpI, Bool.not_true, Bool.not_false, Bool.true_and, Bool.false_and, Bool.and_true, Bool.and_false, reduceIte, List.append_nil, reduceCtorEq]
  cases h : mirQ (a, b, c) <;> simp [zq]

def tr_power : Tr :=
  (.evs [.call 0 [(.var 0), (.var 1), (.var 2)] none 4,
    .call 1 [(.var 4), (.var 5), (.var 6), (.var 7), (.var 3)] none 4]
  (.ret [(.var 8), (.var 9), (.var 10), (.var 11)]))
def Fs_power : List Fun1 := [G_iFracPower, F_keep]
def F_power : Fun1 := ofTree Fs_power tr_power
def G_power : Fun1 := ⟨fun _ => True, fun ins => fr3 (powQ (q3 ins 0)) ++ [.bool (b0 ins 3 || !(powQ (q3 ins 0)).isSome)]⟩
theorem as_power (ins : List Value) (ht : TypedL [.int .i64, .int .i64, .int .i64, .bool] ins) (_ : G_power.pre ins) : F_power.pre ins ∧ F_power.out ins = G_power.out ins := by
  obtain ⟨a, r1, rfl, _, ht1⟩ := int_cons ht
  obtain ⟨b, r2, rfl, _, ht2⟩ := int_cons ht1
  obtain ⟨c, r3, rfl, _, ht3⟩ := int_cons ht2
  obtain ⟨t, r7, rfl, ht7⟩ := bool_cons ht3
  obtain rfl := ints0 ht7
  simp only [F_power, G_power, tr_power, Fs_power, G_iFracPower, F_keep, tr_keep, Fs_keep, q3, fr4, fr3, ofTree, okT, okE, evalT, evalE, evsIn, ev, callF, preF, hasF, needs, i0, b0, toI_int, toB_bool, List.getD_cons_zero, List.getD_cons_succ, List.cons_append, List.nil_append, List.replicate, if_true, if_false, Bool.false_eq_true, and_true, true_and, implies_true, forall_const, false_implies, cmpI, Bool.not_true, Bool.not_false, Bool.true_and, Bool.false_and, Bool.and_true, Bool.and_false, reduceIte, List.append_nil, reduceCtorEq]
  cases h : powQ (a, b, c) <;> simp [zq]

def tr_real : Tr :=
  (.evs [.call 0 [(.var 0), (.var 1), (.var 2)] none 1]
  (.ite (.not (.var 4))
  (.ret [(.int .i64 0), (.int .i64 0), (.int .i64 0), (.bool true)])
  (.evs [.call 1 [(.var 0), (.int .i64 0), (.var 2)] none 4,
     .call 2 [(.var 5), (.var 6), (.var 7), (.var 8), (.var 3)] none 4]
   (.ret [(.var 9), (.var 10), (.var 11), (.var 12)]))))
def Fs_real : List Fun1 := [G_iFracValid, G_lowest, F_keep]
def F_real : Fun1 := ofTree Fs_real tr_real
def G_real : Fun1 := ⟨fun _ => True, fun ins => fr3 (reQ (q3 ins 0)) ++ [.bool (b0 ins 3 || !(reQ (q3 ins 0)).isSome)]⟩
theorem as_real (ins : List Value) (ht : TypedL [.int .i64, .int .i64, .int .i64, .bool] ins) (_ : G_real.pre ins) : F_real.pre ins ∧ F_real.out ins = G_real.out ins := by
  obtain ⟨a, r1, rfl, _, ht1⟩ := int_cons ht
  obtain ⟨b, r2, rfl, _, ht2⟩ := int_cons ht1
  obtain ⟨c, r3, rfl, _, ht3⟩ := int_cons ht2
  obtain ⟨t, r7, rfl, ht7⟩ := bool_cons ht3
  obtain rfl := ints0 ht7
  simp only [F_real, G_real, tr_real, Fs_real, G_iFracValid, G_lowest, F_keep, tr_keep, Fs_keep, reQ, validQ, q3, fr4, fr3, ofTree, okT, okE, evalT, evalE, evsIn, ev, callF, preF, hasF, needs, i0, b0, toI_int, toB_bool, List.getD_cons_zero, List.getD_cons_succ, List.cons_append, List.nil_append, List.replicate, if_true, if_false, Bool.false_eq_true, and_true, true_and, implies_true, forall_const, false_implies, cmpI, Bool.not_true, Bool.not_false, Bool.true_and, Bool.false_and, Bool.and_true, Bool.and_false, reduceIte, List.append_nil, reduceCtorEq]
  cases h : validI a b c
  · simp [zq]
  · obtain ⟨b1, b2, b3⟩ := valid_bounds h
    have l : lowOk a 0 c := by unfold lowOk; omega
    cases k : lowI a 0 c <;> simp [zq, l, k]

def tr_imag : Tr :=
  (.evs [.call 0 [(.var 0), (.var 1), (.var 2)] none 1]
  (.ite (.not (.var 4))
  (.ret [(.int .i64 0), (.int .i64 0), (.int .i64 0), (.bool true)])
  (.evs [.call 1 [(.var 1), (.int .i64 0), (.var 2)] none 4,
     .call 2 [(.var 5), (.var 6), (.var 7), (.var 8), (.var 3)] none 4]
   (.ret [(.var 9), (.var 10), (.var 11), (.var 12)]))))
def Fs_imag : List Fun1 := [G_iFracValid, G_lowest, F_keep]
def F_imag : Fun1 := ofTree Fs_imag tr_imag
def G_imag : Fun1 := ⟨fun _ => True, fun ins => fr3 (imQ (q3 ins 0)) ++ [.bool (b0 ins 3 || !(imQ (q3 ins 0)).isSome)]⟩
theorem as_imag (ins : List Value) (ht : TypedL [.int .i64, .int .i64, .int .i64, .bool] ins) (_ : G_imag.pre ins) : F_imag.pre ins ∧ F_imag.out ins = G_imag.out ins := by
  obtain ⟨a, r1, rfl, _, ht1⟩ := int_cons ht
  obtain ⟨b, r2, rfl, _, ht2⟩ := int_cons ht1
  obtain ⟨c, r3, rfl, _, ht3⟩ := int_cons ht2
  obtain ⟨t, r7, rfl, ht7⟩ := bool_cons ht3
  obtain rfl := ints0 ht7
  simp only [F_imag, G_imag, tr_imag, Fs_imag, G_iFracValid, G_lowest, F_keep, tr_keep, Fs_keep, imQ, validQ, q3, fr4, fr3, ofTree, okT, okE, evalT, evalE, evsIn, ev, callF, preF, hasF, needs, i0, b0, toI_int, toB_bool, List.getD_cons_zero, List.getD_cons_succ, List.cons_append, List.nil_append, List.replicate, if_true, if_false, Bool.false_eq_true, and_true, true_and, implies_true, forall_const, false_implies, cmpI, Bool.not_true, Bool.not_false, Bool.true_and, Bool.false_and, Bool.and_true, Bool.and_false, reduceIte, List.append_nil, reduceCtorEq]
  cases h : validI a b c
  · simp [zq]
  · obtain ⟨b1, b2, b3⟩ := valid_bounds h
    have l : lowOk b 0 c := by unfold lowOk; omega
    cases k : lowI b 0 c <;> simp [zq, l, k]

def tr_wholeM : Tr :=
  (.ret [])
def Fs_wholeM : List Fun1 := []
def F_wholeM : Fun1 := ofTree Fs_wholeM tr_wholeM

def tr_gotFrac : Tr :=
  (.ite (.var 3)
  (.ret [(.int .i64 0), (.int .i64 0), (.int .i64 0), (.bool false), (.var 3)])
  (.ret [(.var 0), (.var 1), (.var 2), (.bool true), (.var 3)]))
def Fs_gotFrac : List Fun1 := []
def F_gotFrac : Fun1 := ofTree Fs_gotFrac tr_gotFrac
def G_gotFrac : Fun1 := ⟨fun _ => True, fun ins => gotV (b0 ins 3) ins 0 3 ++ [.bool (!b0 ins 3), .bool (b0 ins 3)]⟩
theorem out_gotFrac : (fun (g : Nat → Int) => F_gotFrac.out (ivs g 0 3 ++ [.bool true])) = fun g => G_gotFrac.out (ivs g 0 3 ++ [.bool true]) := by kernel_rfl
theorem out_gotFrac' : (fun (g : Nat → Int) => F_gotFrac.out (ivs g 0 3 ++ [.bool false])) = fun g => G_gotFrac.out (ivs g 0 3 ++ [.bool false]) := by kernel_rfl
theorem as_gotFrac (ins : List Value) (ht : TypedL (intTs 3 ++ [.bool]) ins) (_ : G_gotFrac.pre ins) : F_gotFrac.pre ins ∧ F_gotFrac.out ins = G_gotFrac.out ins := by
  obtain ⟨g, r, rfl, h1, _⟩ := ints_lit 3 0 ht
  obtain ⟨b, r2, rfl, h2⟩ := bool_cons h1
  obtain rfl := ints0 h2
  cases b
  · exact ⟨trivial, congrFun out_gotFrac' g⟩
  · exact ⟨trivial, congrFun out_gotFrac g⟩

def tr_iJonesValid : Tr :=
  (.evs [.call 0 [(.var 0), (.var 1), (.var 2)] none 1,
    .call 0 [(.var 3), (.var 4), (.var 5)] (some (.var 6)) 1]
  (.ret [(.ite (.var 6) (.var 7) (.bool false))]))
def Fs_iJonesValid : List Fun1 := [G_iFracValid]
def F_iJonesValid : Fun1 := ofTree Fs_iJonesValid tr_iJonesValid
def G_iJonesValid : Fun1 := ⟨fun _ => True, fun ins => [.bool (jonesQ (q3 ins 0) (q3 ins 3))]⟩
theorem as_iJonesValid (ins : List Value) (ht : TypedL [.int .i64, .int .i64, .int .i64, .int .i64, .int .i64, .int .i64] ins) (_ : G_iJonesValid.pre ins) : F_iJonesValid.pre ins ∧ F_iJonesValid.out ins = G_iJonesValid.out ins := by
  obtain ⟨a, b, c, x, y, z, rfl, _⟩ := ints6 ht
  simp only [F_iJonesValid, G_iJonesValid, tr_iJonesValid, Fs_iJonesValid, G_iFracValid, jonesQ, validQ, q3, ofTree, okT, okE, evalT, evalE, evsIn, ev, callF, preF, hasF, needs, i0, b0, toI_int, toB_bool, List.getD_cons_zero, List.getD_cons_succ, List.cons_append, List.nil_append, List.replicate, if_true, if_false, Bool.false_eq_true, and_true, true_and, implies_true, forall_const, false_implies, cmpI, Bool.not_true, Bool.not_false, Bool.true_and, Bool.false_and, Bool.and_true, Bool.and_false, reduceIte, List.append_nil, reduceCtorEq]
  cases h : validI a b c <;> simp [h]

def tr_pick : Tr :=
  (.ite (.ite (.cmp .lss (.var 0) (.int .i64 1)) (.bool true) (.cmp .eql (.len (.var 1)) (.int .i64 0)))
  (.ret [(.int .i64 0), (.var 1), (.ar .add .i64 (.var 2) (.int .i64 1))])
  (.ite (.cmp .lss (.ar .sub .i64 (.ar .add .i64 (.var 2) (.int .i64 1)) (.int .i64 1)) (.len (.var 1)))
   (.evs [.need [(.inb (.var 3) (.ar .sub .i64 (.ar .add .i64 (.var 2) (.int .i64 1)) (.int .i64 1)) 1)],
      .need [(.cmp .neq (.var 0) (.int .i64 0))]]
    (.ret [(.ar .rem .i64 (.conv .i64 (.sel (.var 3) (.ar .sub .i64 (.ar .add .i64 (.var 2) (.int .i64 1)) (.int .i64 1)) 1 0)) (.var 0)), (.var 1), (.ar .add .i64 (.var 2) (.int .i64 1))]))
   (.evs [.need [(.cmp .neq (.len (.var 1)) (.int .i64 0)), (.inb (.var 3) (.ar .rem .i64 (.ar .sub .i64 (.ar .add .i64 (.var 2) (.int .i64 1)) (.int .i64 1)) (.len (.var 1))) 1), (.cmp .neq (.len (.var 1)) (.int .i64 0)), (.inb (.var 3) (.ar .rem .i64 (.ar .add .i64 (.ar .mul .i64 (.ar .sub .i64 (.ar .add .i64 (.var 2) (.int .i64 1)) (.int .i64 1)) (.int .i64 7)) (.int .i64 3)) (.len (.var 1))) 1), (.cmp .neq (.len (.var 1)) (.int .i64 0))],
      .need [(.cmp .neq (.len (.var 1)) (.int .i64 0)), (.inb (.var 3) (.ar .rem .i64 (.ar .sub .i64 (.ar .add .i64 (.var 2) (.int .i64 1)) (.int .i64 1)) (.len (.var 1))) 1), (.cmp .neq (.len (.var 1)) (.int .i64 0)), (.inb (.var 3) (.ar .rem .i64 (.ar .add .i64 (.ar .mul .i64 (.ar .sub .i64 (.ar .add .i64 (.var 2) (.int .i64 1)) (.int .i64 1)) (.int .i64 7)) (.int .i64 3)) (.len (.var 1))) 1), (.cmp .neq (.len (.var 1)) (.int .i64 0))]]
    (.evs [.need [(.bool true)]]
    (.evs [.need [(.cmp .neq (.var 0) (.int .i64 0))]]
    (.ret [(.ar .rem .i64 (.ar .xor .i64 (.ar .add .i64 (.ar .add .i64 (.ar .add .i64 (.ar .mul .i64 (.conv .i64 (.sel (.var 3) (.ar .rem .i64 (.ar .sub .i64 (.ar .add .i64 (.var 2) (.int .i64 1)) (.int .i64 1)) (.len (.var 1))) 1 0)) (.int .i64 131)) (.ar .mul .i64 (.conv .i64 (.sel (.var 3) (.ar .rem .i64 (.ar .add .i64 (.ar .mul .i64 (.ar .sub .i64 (.ar .add .i64 (.var 2) (.int .i64 1)) (.int .i64 1)) (.int .i64 7)) (.int .i64 3)) (.len (.var 1))) 1 0)) (.int .i64 1117))) (.ar .mul .i64 (.ar .sub .i64 (.ar .add .i64 (.var 2) (.int .i64 1)) (.int .i64 1)) (.int .i64 29))) (.ar .mul .i64 (.ar .quo .i64 (.ar .sub .i64 (.ar .add .i64 (.var 2) (.int .i64 1)) (.int .i64 1)) (.len (.var 1))) (.int .i64 53))) (.ar .quo .i64 (.ar .add .i64 (.ar .add .i64 (.ar .add .i64 (.ar .mul .i64 (.conv .i64 (.sel (.var 3) (.ar .rem .i64 (.ar .sub .i64 (.ar .add .i64 (.var 2) (.int .i64 1)) (.int .i64 1)) (.len (.var 1))) 1 0)) (.int .i64 131)) (.ar .mul .i64 (.conv .i64 (.sel (.var 3) (.ar .rem .i64 (.ar .add .i64 (.ar .mul .i64 (.ar .sub .i64 (.ar .add .i64 (.var 2) (.int .i64 1)) (.int .i64 1)) (.int .i64 7)) (.int .i64 3)) (.len (.var 1))) 1 0)) (.int .i64 1117))) (.ar .mul .i64 (.ar .sub .i64 (.ar .add .i64 (.var 2) (.int .i64 1)) (.int .i64 1)) (.int .i64 29))) (.ar .mul .i64 (.ar .quo .i64 (.ar .sub .i64 (.ar .add .i64 (.var 2) (.int .i64 1)) (.int .i64 1)) (.len (.var 1))) (.int .i64 53))) (.int .i64 64))) (.var 0)), (.var 1), (.ar .add .i64 (.var 2) (.int .i64 1))]))))))
def Fs_pick : List Fun1 := []
def F_pick : Fun1 := ofTree Fs_pick tr_pick
theorem pick_tree {arr : Array Value} {b : Value} {n p L : Int} (hL : lenV b = L) (hs : L = (arr.size : Int)) (hL2 : L ≤ 9223372036854775807) (hn : I64 n) (hp : 0 ≤ p ∧ p ≤ 1000000000) (hb : ∀ i : Nat, 0 ≤ toI (arr.getD i undef) ∧ toI (arr.getD i undef) ≤ 255) :
    okT [] tr_pick [.int .i64 n, b, .int .i64 p, .agg arr] ∧ ∃ x, evalT [] tr_pick [.int .i64 n, b, .int .i64 p, .agg arr] = [.int .i64 x, b, .int .i64 (p + 1)] ∧ 0 ≤ x ∧ x ≤ max 0 (n - 1) := by
  have w1 : IntKind.i64.wrap (p + 1) = p + 1 := wrap_in (by omega)
  have w2 : IntKind.i64.wrap (p + 1 - 1) = p := by rw [show p + 1 - 1 = p by omega]; exact wrap_in (by omega)
  have wb : ∀ i : Nat, IntKind.i64.wrap (toI (arr.getD i undef)) = toI (arr.getD i undef) := fun i => wrap_in (by have := hb i; omega)
  unfold tr_pick
  simp only [okT, evalT, okE, evalE, needs, evsIn, ev, cmpI, arI, toI_int, List.getD_cons_zero, List.getD_cons_succ, w1, w2, hL, toB_bool, Value.cells, Nat.mul_one, Nat.add_zero, wb]
  by_cases c1 : n < 1
  · simp only [c1, decide_true, if_true, toB_bool]
    exact ⟨trivial, 0, rfl, by omega, by omega⟩
  by_cases c2 : L = 0
  · simp only [c1, c2, decide_false, Bool.false_eq_true, if_false, toB_bool, beq_self_eq_true, if_true]
    exact ⟨trivial, 0, rfl, by omega, by omega⟩
  have c3 : (L == 0) = false := by simp [c2]
  simp only [c1, c3, decide_false, Bool.false_eq_true, if_false, toB_bool]
  have n0 : (n != 0) = true := by simp; omega
  by_cases c4 : p < L
  · simp only [c4, decide_true, if_true]
    have h1 := hb p.toNat
    obtain ⟨r1, r2⟩ := tmod_rng (n := n) h1.1 (by omega)
    refine ⟨⟨⟨⟨by rw [Value.bool.injEq, decide_eq_true_eq]; omega, trivial⟩, ⟨by rw [n0], trivial⟩, trivial⟩, trivial⟩, _, rfl, r1, by omega⟩
  · simp only [c4, decide_false, Bool.false_eq_true, if_false]
    have w3 : IntKind.i64.wrap (p * 7) = p * 7 := wrap_in (by omega)
    have w4 : IntKind.i64.wrap (p * 7 + 3) = p * 7 + 3 := wrap_in (by omega)
    obtain ⟨a1, a2⟩ := tmod_rng (x := p) (n := L) (by omega) (by omega)
    obtain ⟨b1, b2⟩ := tmod_rng (x := p * 7 + 3) (n := L) (by omega) (by omega)
    obtain ⟨d1, d2⟩ := tdiv_range (x := p) (n := L) (by omega) (by omega)
    simp only [w3, w4]
    have y1 := hb (p.tmod L).toNat
    have y2 := hb ((p * 7 + 3).tmod L).toNat
    generalize toI (arr.getD (p.tmod L).toNat undef) = u at y1 ⊢
    generalize toI (arr.getD ((p * 7 + 3).tmod L).toNat undef) = v at y2 ⊢
    generalize p.tdiv L = z at d1 d2 ⊢
    rw [wrap_in (z := u * 131) (by omega), wrap_in (z := v * 1117) (by omega), wrap_in (z := p * 29) (by omega), wrap_in (z := z) (by omega), wrap_in (z := z * 53) (by omega),
      wrap_in (z := u * 131 + v * 1117) (by omega), wrap_in (z := u * 131 + v * 1117 + p * 29) (by omega), wrap_in (z := u * 131 + v * 1117 + p * 29 + z * 53) (by omega)]
    have hx : 0 ≤ u * 131 + v * 1117 + p * 29 + z * 53 ∧ u * 131 + v * 1117 + p * 29 + z * 53 ≤ 4611686018427387903 := by omega
    generalize u * 131 + v * 1117 + p * 29 + z * 53 = X at hx ⊢
    obtain ⟨t1, t2⟩ := tdiv_range (x := X) (n := 64) hx.1 (by omega)
    rw [wrap_in (z := X.tdiv 64) (by omega)]
    have hxr := xor_nonneg hx (y := X.tdiv 64) (by omega)
    obtain ⟨r1, r2⟩ := tmod_rng (n := n) hxr.1 (by omega)
    have L0 : (L != 0) = true := by simp [c2]
    refine ⟨⟨⟨⟨by rw [L0], by rw [Value.bool.injEq, decide_eq_true_eq]; omega, by rw [L0], by rw [Value.bool.injEq, decide_eq_true_eq]; omega, by rw [L0], trivial⟩, ⟨by rw [L0], by rw [Value.bool.injEq, decide_eq_true_eq]; omega, by rw [L0], by rw [Value.bool.injEq, decide_eq_true_eq]; omega, by rw [L0], trivial⟩, trivial⟩, ⟨⟨trivial, trivial⟩, trivial⟩, ⟨⟨by rw [n0], trivial⟩, trivial⟩, trivial⟩, _, rfl, r1, by omega⟩
def G_pick (cb : CodeB) : Fun1 := ⟨fun ins => goodSl cb (ins.getD 1 undef) ∧ (∃ n, ins.getD 0 undef = .int .i64 n ∧ I64 n) ∧ ∃ p, ins.getD 2 undef = .int .i64 p ∧ 0 ≤ p ∧ p ≤ 1000000000, fun ins => F_pick.out [ins.getD 0 undef, ins.getD 1 undef, ins.getD 2 undef, rowU cb (ins.getD 1 undef)]⟩
theorem pick_facts {cb : CodeB} (hk : CodeOk cb) {n p : Int} {b : Value} (hb : goodSl cb b) (hn : I64 n) (hp : 0 ≤ p ∧ p ≤ 1000000000) :
    F_pick.pre [.int .i64 n, b, .int .i64 p, rowU cb b] ∧ ∃ x, F_pick.out [.int .i64 n, b, .int .i64 p, rowU cb b] = [.int .i64 x, b, .int .i64 (p + 1)] ∧ 0 ≤ x ∧ x ≤ max 0 (n - 1) := by
  obtain ⟨a, len, cap, arr, hv, hr, hsz, hlen, harr⟩ := goodSl_row hk hb
  rw [hr]
  exact pick_tree (L := len) (by rw [hv]; rfl) (by omega) (by omega) hn hp (row_byte harr)
theorem ghost_pick {cb : CodeB} (hk : CodeOk cb) (n b p : Value) (ht : TypedL [.int .i64, .sl, .int .i64] [n, b, p]) (h : (G_pick cb).pre [n, b, p]) : goodSl cb b ∧ F_pick.pre [n, b, p, rowU cb b] ∧ F_pick.out [n, b, p, rowU cb b] = (G_pick cb).out [n, b, p] := by
  obtain ⟨h1, ⟨n, hn, hn'⟩, p, hp, hp'⟩ := h
  have hn : _ = Value.int .i64 n := hn
  have hp : _ = Value.int .i64 p := hp
  simp only [List.getD_cons_zero, List.getD_cons_succ] at hn hp h1
  subst hn hp
  exact ⟨h1, (pick_facts hk h1 hn' hp').1, rfl⟩
theorem aok_pick {cb : CodeB} (hk : CodeOk cb) : AOK cb (G_pick cb) aPick := by
  intro I O h ins hi
  match I, ins, hi, h with
  | [.itv lo hi', .good, .itv a b], [n, s, p], ⟨⟨n', hn, n1, n2⟩, hs, ⟨p', hp, p1, p2⟩, _⟩, h =>
    simp only [aPick] at h
    split at h
    · rename_i hc
      cases h
      simp only [Bool.and_eq_true, decide_eq_true_eq] at hc
      subst hn hp
      have hn64 : I64 n' := by unfold I64; omega
      have hpp : 0 ≤ p' ∧ p' ≤ 1000000000 := by omega
      obtain ⟨q1, x, q2, q3, q4⟩ := pick_facts hk hs hn64 hpp
      refine ⟨⟨hs, ⟨n', rfl, hn64⟩, p', rfl, hpp⟩, ?_⟩
      have e : (G_pick cb).out [.int .i64 n', s, .int .i64 p'] = [.int .i64 x, s, .int .i64 (p' + 1)] := q2
      rw [e]
      exact ⟨⟨x, rfl, q3, by omega⟩, hs, ⟨p' + 1, rfl, by omega, by omega⟩, trivial⟩
    · cases h

def tr_l6tDiag : Tr :=
  (.evs [.need [(.bool true)]]
  (.evs [.need [(.bool true)]]
  (.evs [.need [(.bool true)]]
  (.evs [.need [(.bool true)]]
  (.evs [.need [(.bool true)]]
  (.evs [.need [(.bool true)]]
  (.evs [.need [(.bool true)]]
  (.evs [.need [(.bool true)]]
  (.evs [.need [(.bool true)]]
  (.evs [.need [(.bool true)]]
  (.evs [.need [(.bool true)]]
  (.evs [.need [(.bool true)]]
  (.evs [.need [(.bool true)]]
  (.evs [.need [(.bool true)]]
  (.evs [.need [(.bool true)]]
  (.evs [.need [(.bool true)]]
  (.ret [(.int .i64 1), (.int .i64 0), (.int .i64 1), (.int .i64 0), (.int .i64 0), (.int .i64 1), (.int .i64 0), (.int .i64 0), (.int .i64 1), (.int .i64 0), (.int .i64 0), (.int .i64 1), (.int .i64 0), (.int .i64 0), (.int .i64 1), (.var 0), (.var 1), (.var 2), (.int .i64 0), (.int .i64 0), (.int .i64 1), (.int .i64 0), (.int .i64 0), (.int .i64 1), (.int .i64 0), (.int .i64 0), (.int .i64 1), (.int .i64 0), (.int .i64 0), (.int .i64 1), (.var 0), (.var 1), (.var 2), (.int .i64 0), (.int .i64 0), (.int .i64 1), (.int .i64 0), (.int .i64 0), (.int .i64 1), (.int .i64 0), (.int .i64 0), (.int .i64 1), (.int .i64 0), (.int .i64 0), (.int .i64 1), (.var 0), (.var 1), (.var 2)])))))))))))))))))
def Fs_l6tDiag : List Fun1 := []
def F_l6tDiag : Fun1 := ofTree Fs_l6tDiag tr_l6tDiag
def A_l6tDiag : AF := absT [] tr_l6tDiag
theorem aok_l6tDiag {cb : CodeB} : AOK cb F_l6tDiag A_l6tDiag := tree_aok AOKs.nil tr_l6tDiag

abbrev F_pickC := G_pick
abbrev A_pickC := aPick
theorem aok_pickC {cb : CodeB} (hk : CodeOk cb) : AOK cb (G_pick cb) aPick := aok_pick hk

abbrev F_openC := G_open
abbrev A_openC := aOpen
theorem aok_openC {cb : CodeB} (_ : CodeOk cb) : AOK cb (G_open cb) aOpen := aok_open

def tr_l91Frac : Tr :=
  (.evs [.call 0 [(.int .i64 40), (.var 0), (.var 1)] none 3]
  (.ite (.cmp .eql (.var 2) (.int .i64 0))
  (.ret [(.int .i64 2), (.int .i64 4), (.int .i64 2), (.var 3), (.var 4)])
  (.ite (.cmp .eql (.var 2) (.int .i64 1))
   (.ret [(.int .i64 1), (.int .i64 0), (.int .i64 0), (.var 3), (.var 4)])
   (.ite (.cmp .eql (.var 2) (.int .i64 2))
    (.ret [(.int .i64 2000000000), (.int .i64 1), (.int .i64 7), (.var 3), (.var 4)])
    (.ite (.cmp .eql (.var 2) (.int .i64 3))
     (.ret [(.int .i64 0), (.int .i64 0), (.int .i64 1), (.var 3), (.var 4)])
     (.evs [.call 0 [(.int .i64 13), (.var 3), (.var 4)] none 3,
        .call 0 [(.int .i64 9), (.var 6), (.var 7)] none 3,
        .call 0 [(.int .i64 2), (.var 9), (.var 10)] none 3,
        .call 0 [(.int .i64 5), (.var 12), (.var 13)] none 3,
        .call 1 [(.ar .sub .i64 (.var 5) (.int .i64 6)), (.ar .mul .i64 (.ar .sub .i64 (.var 8) (.int .i64 4)) (.var 11)), (.ar .add .i64 (.int .i64 1) (.var 14))] none 4]
      (.ret [(.var 17), (.var 18), (.var 19), (.var 15), (.var 16)])))))))
def Fs_l91Frac (cb : CodeB) : List Fun1 := [(F_pickC cb), G_l2Low]
def F_l91Frac (cb : CodeB) : Fun1 := ofTree (Fs_l91Frac cb) tr_l91Frac
def A_l91Frac : AF := absT [A_pickC, A_l2Low] tr_l91Frac
theorem aok_l91Frac {cb : CodeB} (hk : CodeOk cb) : AOK cb (F_l91Frac cb) A_l91Frac := tree_aok (AOKs.cons (aok_pickC hk) (AOKs.cons aok_l2Low AOKs.nil)) tr_l91Frac

def tr_l91Real : Tr :=
  (.evs [.call 1 [(.var 0), (.var 1)] none 5]
  (.evs [.call 0 [(.int .i64 20), (.var 5), (.var 6)] none 3]
  (.ite (.cmp .eql (.var 7) (.int .i64 0))
  (.ret [(.var 2), (.var 3), (.var 4), (.var 8), (.var 9)])
  (.evs [.call 0 [(.int .i64 17), (.var 8), (.var 9)] none 3,
     .call 0 [(.int .i64 4), (.var 11), (.var 12)] none 3,
     .call 2 [(.ar .sub .i64 (.var 10) (.int .i64 8)), (.int .i64 0), (.ar .add .i64 (.int .i64 1) (.var 13))] none 4]
   (.ret [(.var 16), (.var 17), (.var 18), (.var 14), (.var 15)])))))
def Fs_l91Real (cb : CodeB) : List Fun1 := [(F_pickC cb), (F_l91Frac cb), G_l2Low]
def F_l91Real (cb : CodeB) : Fun1 := ofTree (Fs_l91Real cb) tr_l91Real
def A_l91Real : AF := absT [A_pickC, A_l91Frac, A_l2Low] tr_l91Real
theorem aok_l91Real {cb : CodeB} (hk : CodeOk cb) : AOK cb (F_l91Real cb) A_l91Real := tree_aok (AOKs.cons (aok_pickC hk) (AOKs.cons (aok_l91Frac hk) (AOKs.cons aok_l2Low AOKs.nil))) tr_l91Real

def tr_iStokesOfG : Tr :=
  (.evs [.call 0 [(.var 0), (.var 1), (.var 2), (.var 3), (.var 4), (.var 5)] none 1,
    .call 1 [(.var 6), (.bool false)] none 1]
  (.evs [.call 2 [(.var 0), (.var 1), (.var 2), (.var 7)] none 4,
    .call 2 [(.var 3), (.var 4), (.var 5), (.var 11)] none 4]
  (.evs [.call 3 [(.var 3), (.var 4), (.var 5), (.var 15)] none 4,
    .call 4 [(.var 0), (.var 1), (.var 2), (.var 16), (.var 17), (.var 18), (.var 19)] none 4]
  (.evs [.call 5 [] none 0]
  (.evs [.call 8 [(.var 8), (.var 9), (.var 10), (.var 12), (.var 13), (.var 14), (.var 23)] none 4,
    .call 9 [(.var 8), (.var 9), (.var 10), (.var 12), (.var 13), (.var 14), (.var 27)] none 4,
    .call 6 [(.var 20), (.var 21), (.var 22), (.var 31)] none 4,
    .call 4 [(.int .i64 2), (.int .i64 0), (.int .i64 1), (.var 32), (.var 33), (.var 34), (.var 35)] none 4,
    .call 7 [(.var 20), (.var 21), (.var 22), (.var 39)] none 4,
    .call 4 [(.int .i64 2), (.int .i64 0), (.int .i64 1), (.var 40), (.var 41), (.var 42), (.var 43)] none 4,
    .call 10 [(.var 24), (.var 25), (.var 26), (.var 28), (.var 29), (.var 30), (.var 36), (.var 37), (.var 38), (.var 44), (.var 45), (.var 46), (.var 47)] none 14]
  (.ret [(.var 48), (.var 49), (.var 50), (.var 51), (.var 52), (.var 53), (.var 54), (.var 55), (.var 56), (.var 57), (.var 58), (.var 59), (.var 60)]))))))
def Fs_iStokesOfG : List Fun1 := [G_iJonesValid, G_need, G_power, G_mirror, G_times, F_whole2, G_real, G_imag, G_add, G_less, G_gotStokes]
def F_iStokesOfG : Fun1 := ofTree Fs_iStokesOfG tr_iStokesOfG
def G_iStokesOfG : Fun1 := ⟨fun _ => True, fun ins => stW (q3 ins 0) (q3 ins 3)⟩
theorem out_iStokesOfG : (fun (g : Nat → Int) => F_iStokesOfG.out (ivs g 0 6)) = fun g => stW (q3 (ivs g 0 6) 0) (q3 (ivs g 0 6) 3) := by kernel_rfl
theorem as_iStokesOfG (ins : List Value) (ht : TypedL (intTs 6 ++ []) ins) (_ : G_iStokesOfG.pre ins) : F_iStokesOfG.pre ins ∧ F_iStokesOfG.out ins = G_iStokesOfG.out ins := by
  obtain ⟨g, r, rfl, h1, _⟩ := ints_lit 6 0 ht
  obtain rfl := ints0 h1
  rw [List.append_nil]
  exact ⟨okT_free (by intro F hF ins; simp only [Fs_iStokesOfG, List.mem_cons, List.not_mem_nil, or_false] at hF; rcases hF with rfl | rfl | rfl | rfl | rfl | rfl | rfl | rfl | rfl | rfl | rfl <;> trivial) _ _ (by kernel_rfl), congrFun out_iStokesOfG g⟩

def tr_wholeK1 : Tr :=
  (.ret [])
def Fs_wholeK1 : List Fun1 := []
def F_wholeK1 : Fun1 := ofTree Fs_wholeK1 tr_wholeK1

def tr_iFracCompare : Tr :=
  (.evs [.call 0 [(.var 0), (.var 1), (.var 2)] none 1,
    .call 0 [(.var 3), (.var 4), (.var 5)] (some (.not (.not (.var 6)))) 1]
  (.ite (.ite (.not (.var 6)) (.bool true) (.not (.var 7)))
  (.ret [(.int .i64 0), (.bool false)])
  (.ite (.cmp .lss (.ar .sub .i64 (.ar .mul .i64 (.var 0) (.var 5)) (.ar .mul .i64 (.var 3) (.var 2))) (.int .i64 0))
   (.ret [(.int .i64 (-1)), (.bool true)])
   (.ite (.cmp .gtr (.ar .sub .i64 (.ar .mul .i64 (.var 0) (.var 5)) (.ar .mul .i64 (.var 3) (.var 2))) (.int .i64 0))
    (.ret [(.int .i64 1), (.bool true)])
    (.ret [(.int .i64 0), (.bool true)])))))
def Fs_iFracCompare : List Fun1 := [G_realOk]
def F_iFracCompare : Fun1 := ofTree Fs_iFracCompare tr_iFracCompare
def G_iFracCompare : Fun1 := ⟨fun _ => True, fun ins => [.int .i64 (cmpF (q3 ins 0) (q3 ins 3)), .bool (realQ (q3 ins 0) && realQ (q3 ins 3))]⟩
theorem cmp_facts {a b c x y z : Int} (h : realQ (a, b, c) = true) (k : realQ (x, y, z) = true) : IntKind.i64.wrap (a * z) = a * z ∧ IntKind.i64.wrap (x * c) = x * c ∧ IntKind.i64.wrap (a * z - x * c) = a * z - x * c ∧ I64 (a * z - x * c) := by
  have h := realQ_valid h
  have k := realQ_valid k
  obtain ⟨e1, e2, e3, e4, e5, e6, e7, e8, e9, l1, l2⟩ := sum_facts h k
  exact ⟨e1, e2, e8, (I64_iff _).1 e8⟩
theorem as_iFracCompare (ins : List Value) (ht : TypedL [.int .i64, .int .i64, .int .i64, .int .i64, .int .i64, .int .i64] ins) (_ : G_iFracCompare.pre ins) : F_iFracCompare.pre ins ∧ F_iFracCompare.out ins = G_iFracCompare.out ins := by
  obtain ⟨a, b, c, x, y, z, rfl, _⟩ := ints6 ht
  simp only [F_iFracCompare, G_iFracCompare, tr_iFracCompare, Fs_iFracCompare, G_realOk, cmpF, crossI, q3, arI, ofTree, okT, okE, evalT, evalE, evsIn, ev, callF, preF, hasF, needs, i0, b0, toI_int, toB_bool, List.getD_cons_zero, List.getD_cons_succ, List.cons_append, List.nil_append, List.replicate, if_true, if_false, Bool.false_eq_true, and_true, true_and, implies_true, forall_const, false_implies, cmpI, Bool.not_true, Bool.not_false, Bool.true_and, Bool.false_and, Bool.and_true, Bool.and_false, reduceIte, List.append_nil, reduceCtorEq]
  cases h : realQ (a, b, c)
  · simp [h]
  · cases k : realQ (x, y, z)
    · simp [h, k]
    · obtain ⟨e1, e2, e3, _⟩ := cmp_facts h k
      simp only [h, k, e1, e2, e3, ofTree, okT, okE, evalT, evalE, evsIn, ev, callF, preF, hasF, needs, i0, b0, toI_int, toB_bool, List.getD_cons_zero, List.getD_cons_succ, List.cons_append, List.nil_append, List.replicate, if_true, if_false, Bool.false_eq_true, and_true, true_and, implies_true, forall_const, false_implies, cmpI, Bool.not_true, Bool.not_false, Bool.true_and, Bool.false_and, Bool.and_true, Bool.and_false, reduceIte, List.append_nil, reduceCtorEq]
      unfold sgnI
      generalize a * z - x * c = m
      by_cases h1 : m < 0
      · simp [h1]
      · by_cases h2 : m > 0
        · simp [h1, h2]
        · simp [h1, h2]

def tr_six : Tr :=
  (.evs [.app (.val (.agg #[])) 3 (.cells [])]
  (.evs [.call 0 [] none 0]
  (.evs [.call 2 [(.var 0), (.var 1), (.var 2), (.var 3), (.var 4), (.var 5), (.var 6), (.var 7), (.var 8), (.var 9), (.var 10), (.var 11), (.var 12), (.var 13), (.var 14), (.var 15), (.var 16), (.var 17), (.var 18), (.var 19), (.var 20), (.var 21), (.var 22), (.var 23), (.var 24), (.var 25), (.var 26), (.var 27), (.var 28), (.var 29), (.var 30), (.var 31), (.var 32), (.var 33), (.var 34), (.var 35), (.var 36), (.var 37), (.var 38), (.var 39), (.var 40), (.var 41), (.var 42), (.var 43), (.var 44), (.var 45), (.var 46), (.var 47), (.int .i64 1), (.int .i64 0), (.int .i64 1), (.int .i64 1), (.int .i64 0), (.int .i64 1), (.int .i64 0), (.int .i64 0), (.int .i64 1), (.int .i64 0), (.int .i64 0), (.int .i64 1)] none 13]
  (.ite (.not (.var 62))
  (.ret [(.val (.slice none 0 0)), (.bool false), (.val (.agg #[]))])
  (.evs [.app (.var 49) 3 (.cells [(.var 50), (.var 51), (.var 52)])]
   (.evs [.call 1 [] none 0]
   (.evs [.call 2 [(.var 0), (.var 1), (.var 2), (.var 3), (.var 4), (.var 5), (.var 6), (.var 7), (.var 8), (.var 9), (.var 10), (.var 11), (.var 12), (.var 13), (.var 14), (.var 15), (.var 16), (.var 17), (.var 18), (.var 19), (.var 20), (.var 21), (.var 22), (.var 23), (.var 24), (.var 25), (.var 26), (.var 27), (.var 28), (.var 29), (.var 30), (.var 31), (.var 32), (.var 33), (.var 34), (.var 35), (.var 36), (.var 37), (.var 38), (.var 39), (.var 40), (.var 41), (.var 42), (.var 43), (.var 44), (.var 45), (.var 46), (.var 47), (.int .i64 1), (.int .i64 0), (.int .i64 1), (.int .i64 (-1)), (.int .i64 0), (.int .i64 1), (.int .i64 0), (.int .i64 0), (.int .i64 1), (.int .i64 0), (.int .i64 0), (.int .i64 1)] none 13]
   (.ite (.not (.var 77))
   (.ret [(.val (.slice none 0 0)), (.bool false), (.val (.agg #[]))])
   (.evs [.app (.var 64) 3 (.cells [(.var 65), (.var 66), (.var 67)])]
    (.evs [.call 0 [] none 0]
    (.evs [.call 2 [(.var 0), (.var 1), (.var 2), (.var 3), (.var 4), (.var 5), (.var 6), (.var 7), (.var 8), (.var 9), (.var 10), (.var 11), (.var 12), (.var 13), (.var 14), (.var 15), (.var 16), (.var 17), (.var 18), (.var 19), (.var 20), (.var 21), (.var 22), (.var 23), (.var 24), (.var 25), (.var 26), (.var 27), (.var 28), (.var 29), (.var 30), (.var 31), (.var 32), (.var 33), (.var 34), (.var 35), (.var 36), (.var 37), (.var 38), (.var 39), (.var 40), (.var 41), (.var 42), (.var 43), (.var 44), (.var 45), (.var 46), (.var 47), (.int .i64 1), (.int .i64 0), (.int .i64 1), (.int .i64 0), (.int .i64 0), (.int .i64 1), (.int .i64 1), (.int .i64 0), (.int .i64 1), (.int .i64 0), (.int .i64 0), (.int .i64 1)] none 13]
    (.ite (.not (.var 92))
    (.ret [(.val (.slice none 0 0)), (.bool false), (.val (.agg #[]))])
    (.evs [.app (.var 79) 3 (.cells [(.var 80), (.var 81), (.var 82)])]
     (.evs [.call 1 [] none 0]
     (.evs [.call 2 [(.var 0), (.var 1), (.var 2), (.var 3), (.var 4), (.var 5), (.var 6), (.var 7), (.var 8), (.var 9), (.var 10), (.var 11), (.var 12), (.var 13), (.var 14), (.var 15), (.var 16), (.var 17), (.var 18), (.var 19), (.var 20), (.var 21), (.var 22), (.var 23), (.var 24), (.var 25), (.var 26), (.var 27), (.var 28), (.var 29), (.var 30), (.var 31), (.var 32), (.var 33), (.var 34), (.var 35), (.var 36), (.var 37), (.var 38), (.var 39), (.var 40), (.var 41), (.var 42), (.var 43), (.var 44), (.var 45), (.var 46), (.var 47), (.int .i64 1), (.int .i64 0), (.int .i64 1), (.int .i64 0), (.int .i64 0), (.int .i64 1), (.int .i64 (-1)), (.int .i64 0), (.int .i64 1), (.int .i64 0), (.int .i64 0), (.int .i64 1)] none 13]
     (.ite (.not (.var 107))
     (.ret [(.val (.slice none 0 0)), (.bool false), (.val (.agg #[]))])
     (.evs [.app (.var 94) 3 (.cells [(.var 95), (.var 96), (.var 97)])]
      (.evs [.call 0 [] none 0]
      (.evs [.call 2 [(.var 0), (.var 1), (.var 2), (.var 3), (.var 4), (.var 5), (.var 6), (.var 7), (.var 8), (.var 9), (.var 10), (.var 11), (.var 12), (.var 13), (.var 14), (.var 15), (.var 16), (.var 17), (.var 18), (.var 19), (.var 20), (.var 21), (.var 22), (.var 23), (.var 24), (.var 25), (.var 26), (.var 27), (.var 28), (.var 29), (.var 30), (.var 31), (.var 32), (.var 33), (.var 34), (.var 35), (.var 36), (.var 37), (.var 38), (.var 39), (.var 40), (.var 41), (.var 42), (.var 43), (.var 44), (.var 45), (.var 46), (.var 47), (.int .i64 1), (.int .i64 0), (.int .i64 1), (.int .i64 0), (.int .i64 0), (.int .i64 1), (.int .i64 0), (.int .i64 0), (.int .i64 1), (.int .i64 1), (.int .i64 0), (.int .i64 1)] none 13]
      (.ite (.not (.var 122))
      (.ret [(.val (.slice none 0 0)), (.bool false), (.val (.agg #[]))])
      (.evs [.app (.var 109) 3 (.cells [(.var 110), (.var 111), (.var 112)])]
       (.evs [.call 1 [] none 0]
       (.evs [.call 2 [(.var 0), (.var 1), (.var 2), (.var 3), (.var 4), (.var 5), (.var 6), (.var 7), (.var 8), (.var 9), (.var 10), (.var 11), (.var 12), (.var 13), (.var 14), (.var 15), (.var 16), (.var 17), (.var 18), (.var 19), (.var 20), (.var 21), (.var 22), (.var 23), (.var 24), (.var 25), (.var 26), (.var 27), (.var 28), (.var 29), (.var 30), (.var 31), (.var 32), (.var 33), (.var 34), (.var 35), (.var 36), (.var 37), (.var 38), (.var 39), (.var 40), (.var 41), (.var 42), (.var 43), (.var 44), (.var 45), (.var 46), (.var 47), (.int .i64 1), (.int .i64 0), (.int .i64 1), (.int .i64 0), (.int .i64 0), (.int .i64 1), (.int .i64 0), (.int .i64 0), (.int .i64 1), (.int .i64 (-1)), (.int .i64 0), (.int .i64 1)] none 13]
       (.ite (.not (.var 137))
       (.ret [(.val (.slice none 0 0)), (.bool false), (.val (.agg #[]))])
       (.evs [.app (.var 124) 3 (.cells [(.var 125), (.var 126), (.var 127)])]
        (.ret [(.var 138), (.bool true), (.var 139)]))))))))))))))))))))))))))
def Fs_six : List Fun1 := [F_wholeK1, F_wholeM, G_iTableApply]
-- part kinds
/-- Whether the table (forty-eight numbers) can be done to the k-th kind, and the first number that it makes. -/
def kOk (l : List Value) (k : Nat) : Bool := nttT 4 (apQ (l ++ kd k)) (apD (l ++ kd k))
def kX (l : List Value) (k : Nat) : Q := tri (nttH 4 (apQ (l ++ kd k)) (apD (l ++ kd k))) 0
/-- The first numbers, one after the other. -/
def sixV (l : List Value) : Nat → List Value
  | 0 => []
  | k + 1 => sixV l k ++ vQ (kX l k)
theorem sixV_len (l : List Value) : ∀ k, (sixV l k).length = k * 3
  | 0 => rfl
  | k + 1 => by rw [sixV, List.length_append, sixV_len l k]; simp [vQ]; omega
theorem kd_get (g : Nat → Int) (k : Nat) : (∀ j, j < 16 → q3 (ivs g 0 48 ++ kd k) (3 * j) = tri g (3 * j)) ∧ ∀ j, j < 4 → q3 (ivs g 0 48 ++ kd k) (48 + 3 * j) = q3 (kd k) (3 * j) :=
  ⟨get16 rfl rfl rfl rfl rfl rfl rfl rfl rfl rfl rfl rfl rfl rfl rfl rfl, get4 rfl rfl rfl rfl⟩
theorem kd_val {k : Nat} (hk : k < 6) : ∃ s : Rat, (s = 1 ∨ s = -1) ∧ s = (if k % 2 = 0 then 1 else -1) ∧ ∀ x : Nat → Rat, x 0 * reR (q3 (kd k) (3 * 0)) + x 1 * reR (q3 (kd k) (3 * 1)) + x 2 * reR (q3 (kd k) (3 * 2)) + x 3 * reR (q3 (kd k) (3 * 3)) = x 0 + s * x (1 + k / 2) := by
  have r1 : reR (1, 0, 1) = 1 := by decide +kernel
  have r0 : reR (0, 0, 1) = 0 := by decide +kernel
  have rm : reR (-1, 0, 1) = -1 := by decide +kernel
  rcases (by omega : k = 0 ∨ k = 1 ∨ k = 2 ∨ k = 3 ∨ k = 4 ∨ k = 5) with rfl | rfl | rfl | rfl | rfl | rfl
  · exact ⟨1, .inl rfl, rfl, fun x => by show x 0 * reR (1, 0, 1) + x 1 * reR (1, 0, 1) + x 2 * reR (0, 0, 1) + x 3 * reR (0, 0, 1) = x 0 + 1 * x 1; rw [r1, r0]; grind⟩
  · exact ⟨-1, .inr rfl, rfl, fun x => by show x 0 * reR (1, 0, 1) + x 1 * reR (-1, 0, 1) + x 2 * reR (0, 0, 1) + x 3 * reR (0, 0, 1) = x 0 + -1 * x 1; rw [r1, r0, rm]; grind⟩
  · exact ⟨1, .inl rfl, rfl, fun x => by show x 0 * reR (1, 0, 1) + x 1 * reR (0, 0, 1) + x 2 * reR (1, 0, 1) + x 3 * reR (0, 0, 1) = x 0 + 1 * x 2; rw [r1, r0]; grind⟩
  · exact ⟨-1, .inr rfl, rfl, fun x => by show x 0 * reR (1, 0, 1) + x 1 * reR (0, 0, 1) + x 2 * reR (-1, 0, 1) + x 3 * reR (0, 0, 1) = x 0 + -1 * x 2; rw [r1, r0, rm]; grind⟩
  · exact ⟨1, .inl rfl, rfl, fun x => by show x 0 * reR (1, 0, 1) + x 1 * reR (0, 0, 1) + x 2 * reR (0, 0, 1) + x 3 * reR (1, 0, 1) = x 0 + 1 * x 3; rw [r1, r0]; grind⟩
  · exact ⟨-1, .inr rfl, rfl, fun x => by show x 0 * reR (1, 0, 1) + x 1 * reR (0, 0, 1) + x 2 * reR (0, 0, 1) + x 3 * reR (-1, 0, 1) = x 0 + -1 * x 3; rw [r1, r0, rm]; grind⟩
theorem kX_of {l : List Value} {t : Nat → Q} {k : Nat} (hk : k < 6) (e1 : ∀ j, j < 16 → q3 (l ++ kd k) (3 * j) = t j) (e2 : ∀ j, j < 4 → q3 (l ++ kd k) (48 + 3 * j) = q3 (kd k) (3 * j)) (h : kOk l k = true) :
    realQ (kX l k) = true ∧ (∀ j, j < 16 → realQ (t j) = true) ∧ reR (kX l k) = reR (t 0) + (if k % 2 = 0 then 1 else -1) * reR (t (1 + k / 2)) := by
  have h : nttT 4 (apQ (l ++ kd k)) (apD (l ++ kd k)) = true := h
  obtain ⟨o1, o2⟩ := nttT_ok h
  unfold apQ at o1
  rw [Bool.and_eq_true] at o1
  have ht : ∀ j, j < 16 → realQ (t j) = true := fun j hj => by rw [← e1 j hj]; exact tab_get o1.1 j hj
  have hs : ∀ j, j < 4 → realQ (q3 (kd k) (3 * j)) = true := kd_real k hk
  obtain ⟨v, hv⟩ := o2 0 (by omega)
  have hx : tri (nttH 4 (apQ (l ++ kd k)) (apD (l ++ kd k))) (3 * 0) = v := ntt_tri h hv
  have hx : kX l k = v := hx
  unfold apD at hv
  rw [dot_congr (row_congr e1 (by omega : 0 < 4)) e2] at hv
  obtain ⟨d1, d2, d3⟩ := dot_val hv (fun j hj => realQ_im (ht (4 * 0 + j) (by omega))) (fun j hj => realQ_im (hs j hj))
  obtain ⟨s, _, hs1, hs2⟩ := kd_val hk
  rw [hx]
  refine ⟨realQ_of d3 d2, ht, ?_⟩
  rw [d1, ← hs1]
  have := hs2 fun j => reR (rowF t 0 j)
  refine this.trans ?_
  unfold rowF
  simp only [Nat.mul_zero, Nat.zero_add]
/-- The first number is real, and what it is. -/
theorem kX_real {g : Nat → Int} {k : Nat} (hk : k < 6) (h : kOk (ivs g 0 48) k = true) : realQ (kX (ivs g 0 48) k) = true ∧ (∀ j, j < 16 → realQ (tri g (3 * j)) = true) ∧
    reR (kX (ivs g 0 48) k) = reR (tri g 0) + (if k % 2 = 0 then 1 else -1) * reR (tri g (3 * (1 + k / 2))) :=
  kX_of (t := fun j => tri g (3 * j)) hk (kd_get g k).1 (kd_get g k).2 h
theorem allB_false {p : Nat → Bool} : ∀ {n k : Nat}, allB p k n = false → ∃ i, k ≤ i ∧ i < k + n ∧ p i = false
  | 0, k, h => by cases h
  | n + 1, k, h => by
    rw [allB, Bool.and_eq_false_iff] at h
    rcases h with h | h
    · exact ⟨k, Nat.le_refl _, by omega, h⟩
    · obtain ⟨i, h1, h2, h3⟩ := allB_false h
      exact ⟨i, by omega, by omega, h3⟩
theorem sixV_get (l : List Value) : ∀ (n k j : Nat), k < n → j < 3 → (sixV l n).getD (k * 3 + j) undef = (vQ (kX l k)).getD j undef
  | 0, k, j, h, _ => by omega
  | n + 1, k, j, h, hj => by
    rw [sixV]
    by_cases hk : k < n
    · rw [← sixV_get l n k j hk hj]
      simp only [List.getD_eq_getElem?_getD]
      rw [List.getElem?_append_left (by rw [sixV_len]; omega)]
    · obtain rfl : k = n := by omega
      simp only [List.getD_eq_getElem?_getD]
      rw [List.getElem?_append_right (by rw [sixV_len]; omega), sixV_len, show k * 3 + j - k * 3 = j by omega]
theorem six_sel (l : List Value) {n k j : Nat} (hk : k < n) (hj : j < 3) : (Value.agg (sixV l n).toArray).cells.getD (k * 3 + j) undef = (vQ (kX l k)).getD j undef := by
  rw [← sixV_get l n k j hk hj]
  show (sixV l n).toArray.getD _ _ = _
  simp [Array.getD_eq_getD_getElem?, List.getD_eq_getElem?_getD]
theorem rq3_six (l : List Value) {n k : Nat} (hk : k < n) : rq3 (.agg (sixV l n).toArray) k = kX l k := by
  unfold rq3
  rw [six_sel l hk (by omega : 0 < 3), six_sel l hk (by omega : 1 < 3), six_sel l hk (by omega : 2 < 3)]
  rfl
theorem six_size (l : List Value) (n : Nat) : (Value.agg (sixV l n).toArray).cells.size = n * 3 := by
  show (sixV l n).toArray.size = _
  rw [List.size_toArray, sixV_len]
theorem grt_congr {x y : Nat → Q} : ∀ {n : Nat}, (∀ j, j < n → x j = y j) → grt x n = grt y n
  | 0, _ => rfl
  | n + 1, h => by
    have e := grt_congr (n := n) fun j hj => h j (by omega)
    have hl : grt y n < n + 1 := by
      rcases Nat.eq_zero_or_pos n with rfl | hp
      · exact Nat.zero_lt_one
      · have := grt_lt y n hp; omega
    rw [grt, grt, e, h n (by omega), h _ hl]
/-- The greatest one, or nothing. -/
def enQ (l : List Value) : Q := if allB (kOk l) 0 6 = true then kX l (grt (kX l) 6) else zq
def enV (l : List Value) : List Value := vQ (enQ l) ++ [.bool (allB (kOk l) 0 6)]
theorem enV_true {l : List Value} (h : allB (kOk l) 0 6 = true) : enV l = vQ (kX l (grt (kX l) 6)) ++ [.bool true] := by
  unfold enV enQ
  rw [if_pos h, h]
theorem enV_false {l : List Value} (h : allB (kOk l) 0 6 = false) : enV l = zeros 3 ++ [.bool false] := by
  unfold enV enQ
  rw [h]
  rfl
def enB (l : List Value) : Bool := allB (kOk l) 0 6
def SP_six : Spec := fun ins K => (allB (kOk ins) 0 6 = true → ∀ a cap, K [.slice a 6 cap, .bool true, .agg (sixV ins 6).toArray]) ∧ (allB (kOk ins) 0 6 = false → K [.slice none 0 0, .bool false, .agg #[]])
/-- One round after the other. -/
def rndP (l : List Value) (K : List Value → Prop) : List Prop → Nat → Value → Array Value → Prop
  | [], _, s, c => K [s, .bool true, .agg c]
  | p :: r, k, s, c => p ∧ True ∧ (Value.bool (!(nttT 4 (apQ (l ++ kd k)) (apD (l ++ kd k)))) = .bool true → K [.slice none 0 0, .bool false, .agg #[]]) ∧
      (Value.bool (!(nttT 4 (apQ (l ++ kd k)) (apD (l ++ kd k)))) = .bool false → c.size + 3 ≤ 1099511627776 ∧
        ∀ a len cap, HasTy .sl (.slice a len cap) → len * 3 = c.size + 3 → rndP l K r (k + 1) (.slice a len cap) (c ++ [Value.int .i64 (nttH 4 (apQ (l ++ kd k)) (apD (l ++ kd k)) 0), .int .i64 (nttH 4 (apQ (l ++ kd k)) (apD (l ++ kd k)) 1), .int .i64 (nttH 4 (apQ (l ++ kd k)) (apD (l ++ kd k)) 2)].toArray))
theorem six_eq : (fun (P : Program) (g : Nat → Int) (K : List Value → Prop) => sat P (specsOf Fs_six) tr_six (ivs g 0 48) [] K) = fun P g K =>
    (0 + 0 ≤ 1099511627776 ∧ ∀ a len cap, HasTy .sl (.slice a len cap) → len * 3 = 0 + 0 → rndP (ivs g 0 48) K [F_wholeK1.pre [], F_wholeM.pre [], F_wholeK1.pre [], F_wholeM.pre [], F_wholeK1.pre [], F_wholeM.pre []] 0 (.slice a len cap) #[]) := by kernel_rfl
theorem rnd_ok {l : List Value} {K : List Value → Prop} (hT : allB (kOk l) 0 6 = true → ∀ a cap, K [.slice a 6 cap, .bool true, .agg (sixV l 6).toArray]) (hF : ∀ k, k < 6 → kOk l k = false → K [.slice none 0 0, .bool false, .agg #[]]) :
    ∀ (ps : List Prop) (k : Nat) (a : Option Addr) (cap : Nat), (∀ p ∈ ps, p) → ps.length + k = 6 → allB (kOk l) 0 k = true → rndP l K ps k (.slice a k cap) (sixV l k).toArray
  | [], k, a, cap, _, hk, hall => by
    obtain rfl : k = 6 := by simpa using hk
    exact hT hall a cap
  | p :: r, k, a, cap, hp, hk, hall => by
    have hk : r.length + 1 + k = 6 := hk
    refine ⟨hp p List.mem_cons_self, trivial, fun h => ?_, fun h => ?_⟩
    · have h : (!(kOk l k)) = true := Value.bool.inj h
      exact hF k (by omega) (by simpa using h)
    · have h : (!(kOk l k)) = false := Value.bool.inj h
      have hs : (sixV l k).toArray.size = k * 3 := by rw [List.size_toArray, sixV_len]
      refine ⟨by rw [hs]; omega, fun a' len cap' ht hl => ?_⟩
      rw [hs] at hl
      obtain rfl : len = k + 1 := by omega
      have e : (sixV l k).toArray ++ [Value.int .i64 (nttH 4 (apQ (l ++ kd k)) (apD (l ++ kd k)) 0), .int .i64 (nttH 4 (apQ (l ++ kd k)) (apD (l ++ kd k)) 1), .int .i64 (nttH 4 (apQ (l ++ kd k)) (apD (l ++ kd k)) 2)].toArray = (sixV l (k + 1)).toArray := by
        rw [List.append_toArray]; rfl
      rw [e]
      refine rnd_ok hT hF r (k + 1) a' cap' (fun q hq => hp q (List.mem_cons_of_mem _ hq)) (by omega) ?_
      rw [allB_snoc, hall, Nat.zero_add]
      simpa using h
theorem sat_six (P : Program) (ins : List Value) (K : List Value → Prop) (ht : TypedL (intTs 48 ++ []) ins) (h : SP_six ins K) : sat P (specsOf Fs_six) tr_six ins [] K := by
  obtain ⟨g, r, rfl, h1, _⟩ := ints_lit 48 0 ht
  obtain rfl := ints0 h1
  rw [List.append_nil] at *
  obtain ⟨hT, hF⟩ := h
  refine Eq.mpr (congrFun (congrFun (congrFun six_eq P) g) K) ⟨by omega, fun a len cap hty hl => ?_⟩
  obtain rfl : len = 0 := by omega
  have pw : F_wholeK1.pre [] := okT_free (fun F hF => by cases hF) _ _ (by kernel_rfl)
  have pm : F_wholeM.pre [] := okT_free (fun F hF => by cases hF) _ _ (by kernel_rfl)
  refine rnd_ok hT (fun k hk hb => hF ?_) _ 0 a cap ?_ rfl rfl
  · cases ha : allB (kOk (ivs g 0 48)) 0 6 with
    | false => rfl
    | true => rw [allB_get ha k (Nat.zero_le _) (by omega)] at hb; cases hb
  · intro p hp
    simp only [List.mem_cons, List.not_mem_nil, or_false] at hp
    rcases hp with rfl | rfl | rfl | rfl | rfl | rfl
    · exact pw
    · exact pm
    · exact pw
    · exact pm
    · exact pw
    · exact pm

def tr_iTableKeeps : Tr :=
  (.evs [.call 0 [(.var 0), (.var 1), (.var 2), (.var 3), (.var 4), (.var 5), (.var 6), (.var 7), (.var 8), (.var 9), (.var 10), (.var 11), (.var 12), (.var 13), (.var 14), (.var 15), (.var 16), (.var 17), (.var 18), (.var 19), (.var 20), (.var 21), (.var 22), (.var 23), (.var 24), (.var 25), (.var 26), (.var 27), (.var 28), (.var 29), (.var 30), (.var 31), (.var 32), (.var 33), (.var 34), (.var 35), (.var 36), (.var 37), (.var 38), (.var 39), (.var 40), (.var 41), (.var 42), (.var 43), (.var 44), (.var 45), (.var 46), (.var 47)] none 3]
  (.lp 0 [(.int .i64 0), (.var 49)] [.int .i64, .bool]
  (.ite (.cmp .lss (.var 51) (.len (.var 48)))
   (.evs [.need [(.inb (.var 50) (.var 51) 3)]]
    (.evs [.call 1 [(.sel (.var 50) (.var 51) 3 0), (.sel (.var 50) (.var 51) 3 1), (.sel (.var 50) (.var 51) 3 2), (.int .i64 0), (.int .i64 0), (.int .i64 1)] none 2]
    (.evs [.call 1 [(.sel (.var 50) (.var 51) 3 0), (.sel (.var 50) (.var 51) 3 1), (.sel (.var 50) (.var 51) 3 2), (.int .i64 1), (.int .i64 0), (.int .i64 1)] none 2]
    (.next 0 [(.ar .add .i64 (.var 51) (.int .i64 1)), (.ite (.ite (.var 52) (.cmp .geq (.var 53) (.int .i64 0)) (.bool false)) (.cmp .leq (.var 55) (.int .i64 0)) (.bool false))]))))
   (.ret [(.var 52)]))))
def Ss_iTableKeeps : List Spec := [SP_six, G_iFracCompare.spec]
def F_iTableKeeps : Fun1 := ⟨fun _ => True, fun ins => [.bool (allB (kOk ins) 0 6 && allB (fun k => inUnit (kX ins k)) 0 6)]⟩
theorem sat_iTableKeeps (P : Program) (ins : List Value) (K : List Value → Prop) (ht : TypedL (intTs 48 ++ []) ins) (_ : F_iTableKeeps.pre ins) (hK : K (F_iTableKeeps.out ins)) : sat P Ss_iTableKeeps tr_iTableKeeps ins [] K := by
  obtain ⟨g, r, rfl, h1, _⟩ := ints_lit 48 0 ht
  obtain rfl := ints0 h1
  rw [List.append_nil] at *
  have hK : K [.bool (allB (kOk (ivs g 0 48)) 0 6 && allB (fun k => inUnit (kX (ivs g 0 48) k)) 0 6)] := hK
  refine evs_step (call_step (sp := SP_six) rfl ?_)
  show SP_six (ivs g 0 48) _
  refine ⟨fun ha a cap => evs_nil ?_, fun ha => evs_nil ?_⟩
  · rw [ha, Bool.true_and] at hK
    refine ⟨fun vs => ∃ k : Nat, vs = [.int .i64 k, .bool (allB (fun k => inUnit (kX (ivs g 0 48) k)) 0 k)] ∧ k ≤ 6, fun vs => 6 - (toI (vs.getD 0 undef)).toNat, ⟨0, rfl, Nat.zero_le _⟩, ?_⟩
    rintro vs hty ⟨k, rfl, hk⟩
    refine ⟨fun h => ?_, fun h => ?_⟩
    · have hlt : k < 6 := by
        have : decide ((k : Int) < ((6 : Nat) : Int)) = true := Value.bool.inj h
        have := of_decide_eq_true this
        omega
      have hin := inb_ok3 (six_size (ivs g 0 48) 6) hlt
      refine ⟨fun e he => by rw [List.mem_singleton.1 he]; exact hin, evs_nil ?_⟩
      refine evs_step (call_step (sp := G_iFracCompare.spec) rfl ⟨trivial, evs_nil ?_⟩)
      refine evs_step (call_step (sp := G_iFracCompare.spec) rfl ⟨trivial, evs_nil ?_⟩)
      have hx : rq3 (.agg (sixV (ivs g 0 48) 6).toArray) k = kX (ivs g 0 48) k := rq3_six _ hlt
      have hv : (if toB (if toB (.bool (allB (fun k => inUnit (kX (ivs g 0 48) k)) 0 k)) = true then Value.bool (decide (cmpF (rq3 (.agg (sixV (ivs g 0 48) 6).toArray) k) nil1 ≥ 0)) else .bool false) = true then Value.bool (decide (cmpF (rq3 (.agg (sixV (ivs g 0 48) 6).toArray) k) oneQ ≤ 0)) else .bool false) = .bool (allB (fun k => inUnit (kX (ivs g 0 48) k)) 0 (k + 1)) := by
        rw [hx, allB_snoc, Nat.zero_add]
        unfold inUnit
        generalize decide (cmpF (kX (ivs g 0 48) k) nil1 ≥ 0) = p
        generalize decide (cmpF (kX (ivs g 0 48) k) oneQ ≤ 0) = q
        generalize allB _ 0 k = s
        cases s <;> cases p <;> simp
      refine ⟨⟨k + 1, ?_, by omega⟩, ?_⟩
      · show [Value.int .i64 (IntKind.i64.wrap ((k : Int) + 1)), _] = _
        rw [wrap_next hlt (by omega)]
        exact congrArg (fun z => [Value.int .i64 ((k + 1 : Nat) : Int), z]) hv
      · show 6 - (toI (.int .i64 (IntKind.i64.wrap ((k : Int) + 1)))).toNat < 6 - (toI (.int .i64 (k : Int))).toNat
        rw [wrap_next hlt (by omega : 6 ≤ 9223372036854775807)]
        simp only [toI_int, Int.toNat_natCast]
        omega
    · have hge : ¬ k < 6 := by
        have : decide ((k : Int) < ((6 : Nat) : Int)) = false := Value.bool.inj h
        have := of_decide_eq_false this
        omega
      obtain rfl : k = 6 := by omega
      exact hK
  · rw [ha, Bool.false_and] at hK
    refine ⟨fun vs => ∃ z : Int, vs = [.int .i64 0, .bool false], fun vs => 0, ⟨0, rfl⟩, ?_⟩
    rintro vs hty ⟨_, rfl⟩
    exact ⟨fun h => (by cases h), fun h => hK⟩

def tr_diagonal : Tr :=
  (.ret [(.int .i64 1), (.int .i64 0), (.int .i64 1), (.int .i64 0), (.int .i64 0), (.int .i64 1), (.int .i64 0), (.int .i64 0), (.int .i64 1), (.int .i64 0), (.int .i64 0), (.int .i64 1), (.int .i64 0), (.int .i64 0), (.int .i64 1), (.var 0), (.var 1), (.var 2), (.int .i64 0), (.int .i64 0), (.int .i64 1), (.int .i64 0), (.int .i64 0), (.int .i64 1), (.int .i64 0), (.int .i64 0), (.int .i64 1), (.int .i64 0), (.int .i64 0), (.int .i64 1), (.var 0), (.var 1), (.var 2), (.int .i64 0), (.int .i64 0), (.int .i64 1), (.int .i64 0), (.int .i64 0), (.int .i64 1), (.int .i64 0), (.int .i64 0), (.int .i64 1), (.int .i64 0), (.int .i64 0), (.int .i64 1), (.var 0), (.var 1), (.var 2)])
def Fs_diagonal : List Fun1 := []
def F_diagonal : Fun1 := ofTree Fs_diagonal tr_diagonal

def tr_iTableFade : Tr :=
  (.evs [.call 0 [(.var 0), (.var 1), (.var 2)] none 1]
  (.ite (.not (.var 3))
  (.ret [(.int .i64 0), (.int .i64 0), (.int .i64 0), (.int .i64 0), (.int .i64 0), (.int .i64 0), (.int .i64 0), (.int .i64 0), (.int .i64 0), (.int .i64 0), (.int .i64 0), (.int .i64 0), (.int .i64 0), (.int .i64 0), (.int .i64 0), (.int .i64 0), (.int .i64 0), (.int .i64 0), (.int .i64 0), (.int .i64 0), (.int .i64 0), (.int .i64 0), (.int .i64 0), (.int .i64 0), (.int .i64 0), (.int .i64 0), (.int .i64 0), (.int .i64 0), (.int .i64 0), (.int .i64 0), (.int .i64 0), (.int .i64 0), (.int .i64 0), (.int .i64 0), (.int .i64 0), (.int .i64 0), (.int .i64 0), (.int .i64 0), (.int .i64 0), (.int .i64 0), (.int .i64 0), (.int .i64 0), (.int .i64 0), (.int .i64 0), (.int .i64 0), (.int .i64 0), (.int .i64 0), (.int .i64 0), (.bool false)])
  (.evs [.call 1 [(.var 0), (.var 1), (.var 2)] none 48]
   (.ret [(.var 4), (.var 5), (.var 6), (.var 7), (.var 8), (.var 9), (.var 10), (.var 11), (.var 12), (.var 13), (.var 14), (.var 15), (.var 16), (.var 17), (.var 18), (.var 19), (.var 20), (.var 21), (.var 22), (.var 23), (.var 24), (.var 25), (.var 26), (.var 27), (.var 28), (.var 29), (.var 30), (.var 31), (.var 32), (.var 33), (.var 34), (.var 35), (.var 36), (.var 37), (.var 38), (.var 39), (.var 40), (.var 41), (.var 42), (.var 43), (.var 44), (.var 45), (.var 46), (.var 47), (.var 48), (.var 49), (.var 50), (.var 51), (.bool true)]))))
def Fs_iTableFade : List Fun1 := [G_realOk, F_diagonal]
def F_iTableFade : Fun1 := ofTree Fs_iTableFade tr_iTableFade
-- part fade
def dgF (c : Q) (k : Nat) : Q := if k = 0 then oneQ else if k % 5 = 0 then c else nil1
def fdD (c : Q) (k : Nat) : Option Q := some (dgF c k)
def G_iTableFade : Fun1 := ⟨fun _ => True, fun ins => nttW 16 (realQ (q3 ins 0)) (fdD (q3 ins 0))⟩
theorem out_iTableFade : (fun (g : Nat → Int) => F_iTableFade.out (ivs g 0 3)) = fun g => if toB (.bool (!realQ (tri g 0))) = true then zeros 48 ++ [.bool false] else F_diagonal.out (ivs g 0 3) ++ [.bool true] := by kernel_rfl
theorem fade_yes : (fun (g : Nat → Int) => F_diagonal.out (ivs g 0 3) ++ [.bool true]) = fun g => nttW 16 true (fdD (tri g 0)) := by kernel_rfl
theorem fade_no : (fun (g : Nat → Int) => zeros 48 ++ [.bool false]) = fun g => nttW 16 false (fdD (tri g 0)) := by kernel_rfl
theorem as_iTableFade (ins : List Value) (ht : TypedL (intTs 3 ++ []) ins) (_ : G_iTableFade.pre ins) : F_iTableFade.pre ins ∧ F_iTableFade.out ins = G_iTableFade.out ins := by
  obtain ⟨g, r, rfl, h1, _⟩ := ints_lit 3 0 ht
  obtain rfl := ints0 h1
  rw [List.append_nil]
  refine ⟨okT_free (by intro F hF ins; simp only [Fs_iTableFade, List.mem_cons, List.not_mem_nil, or_false] at hF; rcases hF with rfl | rfl; · trivial
                       · exact okT_free (fun F hF => by cases hF) _ _ (by kernel_rfl)) _ _ (by kernel_rfl), (congrFun out_iTableFade g).trans ?_⟩
  show _ = nttW 16 (realQ (tri g 0)) (fdD (tri g 0))
  cases realQ (tri g 0)
  · exact congrFun fade_no g
  · exact congrFun fade_yes g

def tr_sTableFade : Tr :=
  (.evs [.call 0 [(.var 0), (.var 1), (.var 2)] none 1]
  (.ite (.ite (.not (.var 3)) (.bool true) (.cmp .neq (.var 1) (.int .i64 0)))
  (.ret [(.int .i64 0), (.int .i64 0), (.int .i64 0), (.int .i64 0), (.int .i64 0), (.int .i64 0), (.int .i64 0), (.int .i64 0), (.int .i64 0), (.int .i64 0), (.int .i64 0), (.int .i64 0), (.int .i64 0), (.int .i64 0), (.int .i64 0), (.int .i64 0), (.int .i64 0), (.int .i64 0), (.int .i64 0), (.int .i64 0), (.int .i64 0), (.int .i64 0), (.int .i64 0), (.int .i64 0), (.int .i64 0), (.int .i64 0), (.int .i64 0), (.int .i64 0), (.int .i64 0), (.int .i64 0), (.int .i64 0), (.int .i64 0), (.int .i64 0), (.int .i64 0), (.int .i64 0), (.int .i64 0), (.int .i64 0), (.int .i64 0), (.int .i64 0), (.int .i64 0), (.int .i64 0), (.int .i64 0), (.int .i64 0), (.int .i64 0), (.int .i64 0), (.int .i64 0), (.int .i64 0), (.int .i64 0), (.bool false)])
  (.evs [.call 1 [(.var 0), (.var 1), (.var 2)] none 48]
   (.ret [(.var 4), (.var 5), (.var 6), (.var 7), (.var 8), (.var 9), (.var 10), (.var 11), (.var 12), (.var 13), (.var 14), (.var 15), (.var 16), (.var 17), (.var 18), (.var 19), (.var 20), (.var 21), (.var 22), (.var 23), (.var 24), (.var 25), (.var 26), (.var 27), (.var 28), (.var 29), (.var 30), (.var 31), (.var 32), (.var 33), (.var 34), (.var 35), (.var 36), (.var 37), (.var 38), (.var 39), (.var 40), (.var 41), (.var 42), (.var 43), (.var 44), (.var 45), (.var 46), (.var 47), (.var 48), (.var 49), (.var 50), (.var 51), (.bool true)]))))
def Fs_sTableFade : List Fun1 := [G_sFracValid, F_l6tDiag]
def F_sTableFade : Fun1 := ofTree Fs_sTableFade tr_sTableFade
def G_sTableFade : Fun1 := ⟨fun _ => True, fun ins => nttW 16 (realQ (q3 ins 0)) (fdD (q3 ins 0))⟩
theorem out_sTableFade : (fun (g : Nat → Int) => F_sTableFade.out (ivs g 0 3)) = fun g => if toB (if toB (.bool (!validQ (tri g 0))) = true then .bool true else .bool (!((tri g 0).2.1 == 0))) = true then zeros 48 ++ [.bool false] else F_l6tDiag.out (ivs g 0 3) ++ [.bool true] := by kernel_rfl
theorem sfade_yes : (fun (g : Nat → Int) => F_l6tDiag.out (ivs g 0 3) ++ [.bool true]) = fun g => nttW 16 true (fdD (tri g 0)) := by kernel_rfl
theorem sfade_no : (fun (g : Nat → Int) => zeros 48 ++ [.bool false]) = fun g => nttW 16 false (fdD (tri g 0)) := by kernel_rfl
theorem as_sTableFade (ins : List Value) (ht : TypedL (intTs 3 ++ []) ins) (_ : G_sTableFade.pre ins) : F_sTableFade.pre ins ∧ F_sTableFade.out ins = G_sTableFade.out ins := by
  obtain ⟨g, r, rfl, h1, _⟩ := ints_lit 3 0 ht
  obtain rfl := ints0 h1
  rw [List.append_nil]
  refine ⟨okT_free (by intro F hF ins; simp only [Fs_sTableFade, List.mem_cons, List.not_mem_nil, or_false] at hF; rcases hF with rfl | rfl; · trivial
                       · exact okT_free (fun F hF => by cases hF) _ _ (by kernel_rfl)) _ _ (by kernel_rfl), (congrFun out_sTableFade g).trans ?_⟩
  show _ = nttW 16 (realQ (tri g 0)) (fdD (tri g 0))
  unfold realQ
  cases validQ (tri g 0)
  · exact congrFun sfade_no g
  · cases (tri g 0).2.1 == 0
    · exact congrFun sfade_no g
    · exact congrFun sfade_yes g

def tr_DrawTableFade : Tr :=
  (.evs [.call 0 [(.var 0)] none 2,
    .call 1 [(.var 1), (.var 2)] none 5]
  (.ret [(.var 3), (.var 4), (.var 5)]))
def Fs_DrawTableFade (cb : CodeB) : List Fun1 := [(F_openC cb), (F_l91Real cb)]
def F_DrawTableFade (cb : CodeB) : Fun1 := ofTree (Fs_DrawTableFade cb) tr_DrawTableFade
def A_DrawTableFade : AF := absT [A_openC, A_l91Real] tr_DrawTableFade
theorem aok_DrawTableFade {cb : CodeB} (hk : CodeOk cb) : AOK cb (F_DrawTableFade cb) A_DrawTableFade := tree_aok (AOKs.cons (aok_openC hk) (AOKs.cons (aok_l91Real hk) AOKs.nil)) tr_DrawTableFade

def tr_iStokesSquares : Tr :=
  (.evs [.call 0 [(.var 0), (.var 1), (.var 2), (.var 3), (.var 4), (.var 5), (.var 6), (.var 7), (.var 8), (.var 9), (.var 10), (.var 11)] none 1,
    .call 1 [(.var 12), (.bool false)] none 1]
  (.evs [.call 2 [(.var 3), (.var 4), (.var 5), (.var 3), (.var 4), (.var 5), (.var 13)] none 4]
  (.evs [.call 2 [(.var 6), (.var 7), (.var 8), (.var 6), (.var 7), (.var 8), (.var 17)] none 4,
    .call 3 [(.var 14), (.var 15), (.var 16), (.var 18), (.var 19), (.var 20), (.var 21)] none 4]
  (.evs [.call 2 [(.var 9), (.var 10), (.var 11), (.var 9), (.var 10), (.var 11), (.var 25)] none 4,
    .call 3 [(.var 22), (.var 23), (.var 24), (.var 26), (.var 27), (.var 28), (.var 29)] none 4]
  (.evs [.call 4 [(.var 30), (.var 31), (.var 32), (.var 33)] none 5]
  (.ret [(.var 34), (.var 35), (.var 36), (.var 37)]))))))
def Fs_iStokesSquares : List Fun1 := [G_iStokesValid, G_need, G_times, G_add, G_gotFrac]
def F_iStokesSquares : Fun1 := ofTree Fs_iStokesSquares tr_iStokesSquares
def sqI (a : Nat → Q) : Q × Bool :=
  let p := opS timesQ (false || !stQ a) (a 1) (a 1)
  let q := opS timesQ p.2 (a 2) (a 2)
  let r := opS addQ q.2 p.1 q.1
  let u := opS timesQ r.2 (a 3) (a 3)
  opS addQ u.2 r.1 u.1
def gtQ (p : Q × Bool) : Q := (if p.2 then 0 else p.1.1, if p.2 then 0 else p.1.2.1, if p.2 then 0 else p.1.2.2)
def G_iStokesSquares : Fun1 := ⟨fun _ => True, fun ins => [.int .i64 (gtQ (sqI fun k => q3 ins (3 * k))).1, .int .i64 (gtQ (sqI fun k => q3 ins (3 * k))).2.1, .int .i64 (gtQ (sqI fun k => q3 ins (3 * k))).2.2, .bool (!(sqI fun k => q3 ins (3 * k)).2)]⟩
theorem out_iStokesSquares : (fun (g : Nat → Int) => evalT Fs_iStokesSquares tr_iStokesSquares (ivs g 0 12)) = fun g => G_iStokesSquares.out (ivs g 0 12) := by kernel_rfl
theorem as_iStokesSquares (ins : List Value) (ht : TypedL (intTs 12 ++ []) ins) (_ : G_iStokesSquares.pre ins) : F_iStokesSquares.pre ins ∧ F_iStokesSquares.out ins = G_iStokesSquares.out ins := by
  obtain ⟨g, r, rfl, h1, _⟩ := ints_lit 12 0 ht
  obtain rfl := ints0 h1
  rw [List.append_nil]
  exact ⟨okT_free (by intro F hF ins; simp only [Fs_iStokesSquares, List.mem_cons, List.not_mem_nil, or_false] at hF; rcases hF with rfl | rfl | rfl | rfl | rfl <;> trivial) _ _ (by kernel_rfl), congrFun out_iStokesSquares g⟩

def tr_excess : Tr :=
  (.evs [.call 0 [(.var 0), (.var 1), (.var 2), (.var 3), (.var 4), (.var 5), (.var 6), (.var 7), (.var 8), (.var 9), (.var 10), (.var 11)] none 4]
  (.evs [.call 1 [(.var 0), (.var 1), (.var 2), (.var 0), (.var 1), (.var 2)] none 4]
  (.ite (.ite (.not (.var 15)) (.bool true) (.not (.var 19)))
  (.ret [(.int .i64 0), (.bool false)])
  (.evs [.call 2 [(.var 16), (.var 17), (.var 18), (.var 12), (.var 13), (.var 14)] none 2]
   (.ret [(.var 20), (.var 21)])))))
def Fs_excess : List Fun1 := [G_iStokesSquares, G_iFracTimes, G_iFracCompare]
def F_excess : Fun1 := ofTree Fs_excess tr_excess
def exG (a : Nat → Q) : Bool := !(sqI a).2 && (timesQ (a 0) (a 0)).isSome
def exN (a : Nat → Q) : Int := if exG a = true then cmpF ((timesQ (a 0) (a 0)).getD zq) (gtQ (sqI a)) else 0
def exB (a : Nat → Q) : Bool := exG a && (realQ ((timesQ (a 0) (a 0)).getD zq) && realQ (gtQ (sqI a)))
def G_excess : Fun1 := ⟨fun _ => True, fun ins => [.int .i64 (exN fun k => q3 ins (3 * k)), .bool (exB fun k => q3 ins (3 * k))]⟩
theorem out_excess : (fun (g : Nat → Int) => F_excess.out (ivs g 0 12)) = fun g =>
    if toB (if toB (.bool (!(!(sqI fun k => q3 (ivs g 0 12) (3 * k)).2))) = true then .bool true else .bool (!(timesQ (q3 (ivs g 0 12) (3 * 0)) (q3 (ivs g 0 12) (3 * 0))).isSome)) = true then [.int .i64 0, .bool false] else
    [.int .i64 (cmpF ((timesQ (q3 (ivs g 0 12) (3 * 0)) (q3 (ivs g 0 12) (3 * 0))).getD zq) (gtQ (sqI fun k => q3 (ivs g 0 12) (3 * k)))), .bool (realQ ((timesQ (q3 (ivs g 0 12) (3 * 0)) (q3 (ivs g 0 12) (3 * 0))).getD zq) && realQ (gtQ (sqI fun k => q3 (ivs g 0 12) (3 * k))))] := by kernel_rfl
theorem as_excess (ins : List Value) (ht : TypedL (intTs 12 ++ []) ins) (_ : G_excess.pre ins) : F_excess.pre ins ∧ F_excess.out ins = G_excess.out ins := by
  obtain ⟨g, r, rfl, h1, _⟩ := ints_lit 12 0 ht
  obtain rfl := ints0 h1
  rw [List.append_nil]
  refine ⟨okT_free (by intro F hF ins; simp only [Fs_excess, List.mem_cons, List.not_mem_nil, or_false] at hF; rcases hF with rfl | rfl | rfl <;> trivial) _ _ (by kernel_rfl), (congrFun out_excess g).trans ?_⟩
  show _ = [Value.int .i64 (exN fun k => q3 (ivs g 0 12) (3 * k)), .bool (exB fun k => q3 (ivs g 0 12) (3 * k))]
  unfold exN exB exG
  generalize ha : (fun k => q3 (ivs g 0 12) (3 * k)) = a
  have e : q3 (ivs g 0 12) (3 * 0) = a 0 := by rw [← ha]
  rw [e]
  cases (sqI a).2 <;> cases (timesQ (a 0) (a 0)).isSome <;> simp

def tr_iStokesLight : Tr :=
  (.evs [.call 0 [(.var 0), (.var 1), (.var 2), (.var 3), (.var 4), (.var 5), (.var 6), (.var 7), (.var 8), (.var 9), (.var 10), (.var 11)] none 2]
  (.ret [(.ite (.ite (.var 13) (.cmp .geq (.var 12) (.int .i64 0)) (.bool false)) (.cmp .geq (.var 0) (.int .i64 0)) (.bool false))]))
def Fs_iStokesLight : List Fun1 := [G_excess]
def F_iStokesLight : Fun1 := ofTree Fs_iStokesLight tr_iStokesLight
def ltB (a : Nat → Q) : Bool := exB a && (decide (exN a ≥ 0) && decide ((a 0).1 ≥ 0))
def G_iStokesLight : Fun1 := ⟨fun _ => True, fun ins => [.bool (ltB fun k => q3 ins (3 * k))]⟩
theorem out_iStokesLight : (fun (g : Nat → Int) => F_iStokesLight.out (ivs g 0 12)) = fun g =>
    [if toB (if toB (.bool (exB fun k => q3 (ivs g 0 12) (3 * k))) = true then .bool (decide ((exN fun k => q3 (ivs g 0 12) (3 * k)) ≥ 0)) else .bool false) = true then .bool (decide ((q3 (ivs g 0 12) (3 * 0)).1 ≥ 0)) else .bool false] := by kernel_rfl
theorem as_iStokesLight (ins : List Value) (ht : TypedL (intTs 12 ++ []) ins) (_ : G_iStokesLight.pre ins) : F_iStokesLight.pre ins ∧ F_iStokesLight.out ins = G_iStokesLight.out ins := by
  obtain ⟨g, r, rfl, h1, _⟩ := ints_lit 12 0 ht
  obtain rfl := ints0 h1
  rw [List.append_nil]
  refine ⟨okT_free (by intro F hF ins; simp only [Fs_iStokesLight, List.mem_cons, List.not_mem_nil, or_false] at hF; rcases hF with rfl; trivial) _ _ (by kernel_rfl), (congrFun out_iStokesLight g).trans ?_⟩
  show _ = [Value.bool (ltB fun k => q3 (ivs g 0 12) (3 * k))]
  unfold ltB
  cases exB fun k => q3 (ivs g 0 12) (3 * k)
  · simp
  · cases hn : decide ((exN fun k => q3 (ivs g 0 12) (3 * k)) ≥ 0)
    · simp
    · simp

def tr_FnFade : Tr :=
  (.ite (.cmp .gtr (.len (.var 0)) (.int .i64 1048576))
  (.ret [(.bool true)])
  (.evs [.call 0 [(.var 0)] none 3]
   (.evs [.call 1 [(.var 1), (.var 2), (.var 3)] none 49]
   (.evs [.call 2 [(.var 1), (.var 2), (.var 3)] none 49]
   (.ite (.ite (.ite (.not (.eqb (.var 52) (.var 101))) (.bool true) (.not (.ite (.cmp .eql (.var 4) (.var 53)) (.ite (.cmp .eql (.var 5) (.var 54)) (.ite (.cmp .eql (.var 6) (.var 55)) (.ite (.cmp .eql (.var 7) (.var 56)) (.ite (.cmp .eql (.var 8) (.var 57)) (.ite (.cmp .eql (.var 9) (.var 58)) (.ite (.cmp .eql (.var 10) (.var 59)) (.ite (.cmp .eql (.var 11) (.var 60)) (.ite (.cmp .eql (.var 12) (.var 61)) (.ite (.cmp .eql (.var 13) (.var 62)) (.ite (.cmp .eql (.var 14) (.var 63)) (.ite (.cmp .eql (.var 15) (.var 64)) (.ite (.cmp .eql (.var 16) (.var 65)) (.ite (.cmp .eql (.var 17) (.var 66)) (.ite (.cmp .eql (.var 18) (.var 67)) (.ite (.cmp .eql (.var 19) (.var 68)) (.ite (.cmp .eql (.var 20) (.var 69)) (.ite (.cmp .eql (.var 21) (.var 70)) (.ite (.cmp .eql (.var 22) (.var 71)) (.ite (.cmp .eql (.var 23) (.var 72)) (.ite (.cmp .eql (.var 24) (.var 73)) (.ite (.cmp .eql (.var 25) (.var 74)) (.ite (.cmp .eql (.var 26) (.var 75)) (.ite (.cmp .eql (.var 27) (.var 76)) (.ite (.cmp .eql (.var 28) (.var 77)) (.ite (.cmp .eql (.var 29) (.var 78)) (.ite (.cmp .eql (.var 30) (.var 79)) (.ite (.cmp .eql (.var 31) (.var 80)) (.ite (.cmp .eql (.var 32) (.var 81)) (.ite (.cmp .eql (.var 33) (.var 82)) (.ite (.cmp .eql (.var 34) (.var 83)) (.ite (.cmp .eql (.var 35) (.var 84)) (.ite (.cmp .eql (.var 36) (.var 85)) (.ite (.cmp .eql (.var 37) (.var 86)) (.ite (.cmp .eql (.var 38) (.var 87)) (.ite (.cmp .eql (.var 39) (.var 88)) (.ite (.cmp .eql (.var 40) (.var 89)) (.ite (.cmp .eql (.var 41) (.var 90)) (.ite (.cmp .eql (.var 42) (.var 91)) (.ite (.cmp .eql (.var 43) (.var 92)) (.ite (.cmp .eql (.var 44) (.var 93)) (.ite (.cmp .eql (.var 45) (.var 94)) (.ite (.cmp .eql (.var 46) (.var 95)) (.ite (.cmp .eql (.var 47) (.var 96)) (.ite (.cmp .eql (.var 48) (.var 97)) (.ite (.cmp .eql (.var 49) (.var 98)) (.ite (.cmp .eql (.var 50) (.var 99)) (.cmp .eql (.var 51) (.var 100)) (.bool false)) (.bool false)) (.bool false)) (.bool false)) (.bool false)) (.bool false)) (.bool false)) (.bool false)) (.bool false)) (.bool false)) (.bool false)) (.bool false)) (.bool false)) (.bool false)) (.bool false)) (.bool false)) (.bool false)) (.bool false)) (.bool false)) (.bool false)) (.bool false)) (.bool false)) (.bool false)) (.bool false)) (.bool false)) (.bool false)) (.bool false)) (.bool false)) (.bool false)) (.bool false)) (.bool false)) (.bool false)) (.bool false)) (.bool false)) (.bool false)) (.bool false)) (.bool false)) (.bool false)) (.bool false)) (.bool false)) (.bool false)) (.bool false)) (.bool false)) (.bool false)) (.bool false)) (.bool false)) (.bool false)))) (.bool true) (.not (.var 52)))
   (.ret [(.ite (.eqb (.var 52) (.var 101)) (.ite (.cmp .eql (.var 4) (.var 53)) (.ite (.cmp .eql (.var 5) (.var 54)) (.ite (.cmp .eql (.var 6) (.var 55)) (.ite (.cmp .eql (.var 7) (.var 56)) (.ite (.cmp .eql (.var 8) (.var 57)) (.ite (.cmp .eql (.var 9) (.var 58)) (.ite (.cmp .eql (.var 10) (.var 59)) (.ite (.cmp .eql (.var 11) (.var 60)) (.ite (.cmp .eql (.var 12) (.var 61)) (.ite (.cmp .eql (.var 13) (.var 62)) (.ite (.cmp .eql (.var 14) (.var 63)) (.ite (.cmp .eql (.var 15) (.var 64)) (.ite (.cmp .eql (.var 16) (.var 65)) (.ite (.cmp .eql (.var 17) (.var 66)) (.ite (.cmp .eql (.var 18) (.var 67)) (.ite (.cmp .eql (.var 19) (.var 68)) (.ite (.cmp .eql (.var 20) (.var 69)) (.ite (.cmp .eql (.var 21) (.var 70)) (.ite (.cmp .eql (.var 22) (.var 71)) (.ite (.cmp .eql (.var 23) (.var 72)) (.ite (.cmp .eql (.var 24) (.var 73)) (.ite (.cmp .eql (.var 25) (.var 74)) (.ite (.cmp .eql (.var 26) (.var 75)) (.ite (.cmp .eql (.var 27) (.var 76)) (.ite (.cmp .eql (.var 28) (.var 77)) (.ite (.cmp .eql (.var 29) (.var 78)) (.ite (.cmp .eql (.var 30) (.var 79)) (.ite (.cmp .eql (.var 31) (.var 80)) (.ite (.cmp .eql (.var 32) (.var 81)) (.ite (.cmp .eql (.var 33) (.var 82)) (.ite (.cmp .eql (.var 34) (.var 83)) (.ite (.cmp .eql (.var 35) (.var 84)) (.ite (.cmp .eql (.var 36) (.var 85)) (.ite (.cmp .eql (.var 37) (.var 86)) (.ite (.cmp .eql (.var 38) (.var 87)) (.ite (.cmp .eql (.var 39) (.var 88)) (.ite (.cmp .eql (.var 40) (.var 89)) (.ite (.cmp .eql (.var 41) (.var 90)) (.ite (.cmp .eql (.var 42) (.var 91)) (.ite (.cmp .eql (.var 43) (.var 92)) (.ite (.cmp .eql (.var 44) (.var 93)) (.ite (.cmp .eql (.var 45) (.var 94)) (.ite (.cmp .eql (.var 46) (.var 95)) (.ite (.cmp .eql (.var 47) (.var 96)) (.ite (.cmp .eql (.var 48) (.var 97)) (.ite (.cmp .eql (.var 49) (.var 98)) (.ite (.cmp .eql (.var 50) (.var 99)) (.cmp .eql (.var 51) (.var 100)) (.bool false)) (.bool false)) (.bool false)) (.bool false)) (.bool false)) (.bool false)) (.bool false)) (.bool false)) (.bool false)) (.bool false)) (.bool false)) (.bool false)) (.bool false)) (.bool false)) (.bool false)) (.bool false)) (.bool false)) (.bool false)) (.bool false)) (.bool false)) (.bool false)) (.bool false)) (.bool false)) (.bool false)) (.bool false)) (.bool false)) (.bool false)) (.bool false)) (.bool false)) (.bool false)) (.bool false)) (.bool false)) (.bool false)) (.bool false)) (.bool false)) (.bool false)) (.bool false)) (.bool false)) (.bool false)) (.bool false)) (.bool false)) (.bool false)) (.bool false)) (.bool false)) (.bool false)) (.bool false)) (.bool false)) (.bool false))])
   (.evs [.call 3 [(.int .i64 1), (.int .i64 0), (.int .i64 1), (.int .i64 0), (.int .i64 1), (.int .i64 1)] none 13]
    (.evs [.call 4 [(.var 4), (.var 5), (.var 6), (.var 7), (.var 8), (.var 9), (.var 10), (.var 11), (.var 12), (.var 13), (.var 14), (.var 15), (.var 16), (.var 17), (.var 18), (.var 19), (.var 20), (.var 21), (.var 22), (.var 23), (.var 24), (.var 25), (.var 26), (.var 27), (.var 28), (.var 29), (.var 30), (.var 31), (.var 32), (.var 33), (.var 34), (.var 35), (.var 36), (.var 37), (.var 38), (.var 39), (.var 40), (.var 41), (.var 42), (.var 43), (.var 44), (.var 45), (.var 46), (.var 47), (.var 48), (.var 49), (.var 50), (.var 51), (.var 102), (.var 103), (.var 104), (.var 105), (.var 106), (.var 107), (.var 108), (.var 109), (.var 110), (.var 111), (.var 112), (.var 113)] none 13]
    (.evs [.call 5 [(.var 115), (.var 116), (.var 117), (.var 118), (.var 119), (.var 120), (.var 121), (.var 122), (.var 123), (.var 124), (.var 125), (.var 126)] none 4]
    (.evs [.call 6 [(.var 4), (.var 5), (.var 6), (.var 7), (.var 8), (.var 9), (.var 10), (.var 11), (.var 12), (.var 13), (.var 14), (.var 15), (.var 16), (.var 17), (.var 18), (.var 19), (.var 20), (.var 21), (.var 22), (.var 23), (.var 24), (.var 25), (.var 26), (.var 27), (.var 28), (.var 29), (.var 30), (.var 31), (.var 32), (.var 33), (.var 34), (.var 35), (.var 36), (.var 37), (.var 38), (.var 39), (.var 40), (.var 41), (.var 42), (.var 43), (.var 44), (.var 45), (.var 46), (.var 47), (.var 48), (.var 49), (.var 50), (.var 51)] (some (.ite (.not (.ite (.cmp .lss (.var 1) (.ar .sub .i64 (.int .i64 0) (.var 3))) (.bool true) (.cmp .gtr (.var 1) (.var 3)))) (.var 114) (.bool false))) 1,
      .call 7 [(.var 115), (.var 116), (.var 117), (.var 118), (.var 119), (.var 120), (.var 121), (.var 122), (.var 123), (.var 124), (.var 125), (.var 126)] (some (.ite (.ite (.not (.ite (.cmp .lss (.var 1) (.ar .sub .i64 (.int .i64 0) (.var 3))) (.bool true) (.cmp .gtr (.var 1) (.var 3)))) (.ite (.var 114) (.var 132) (.bool false)) (.bool false)) (.not (.ite (.not (.var 127)) (.bool true) (.not (.var 131)))) (.bool false))) 1]
    (.ret [(.ite (.ite (.cmp .lss (.var 1) (.ar .sub .i64 (.int .i64 0) (.var 3))) (.bool true) (.cmp .gtr (.var 1) (.var 3))) (.bool true) (.ite (.ite (.var 114) (.var 132) (.bool false)) (.ite (.ite (.not (.var 127)) (.bool true) (.not (.var 131))) (.bool true) (.var 133)) (.bool false)))]))))))))))
def Fs_FnFade : List Fun1 := [G_iTableFade, G_sTableFade, G_iStokesOfG, G_iTableApply, G_iStokesSquares, F_iTableKeeps, G_iStokesLight]
def dt_FnFade : List Ty := [.int .i64, .int .i64, .int .i64]
def Ss_FnFade (cb : CodeB) : List Spec := drawSpec dt_FnFade (drawPre cb) :: specsOf Fs_FnFade
def tl_FnFade : Tr := match tr_FnFade with
  | .ite _ _ (.evs _ t) => t
  | t => t
theorem sh_FnFade : tr_FnFade = .ite (.cmp .gtr (.len (.var 0)) (.int .i64 1048576)) (.ret [.bool true]) (.evs [.call 0 [.var 0] none 3] tl_FnFade) := by kernel_rfl
theorem sat_drawsS {P : Program} {cb : CodeB} {ts : List Ty} {Fs : List Fun1} {t : Tr} {n : Nat} {ins : List Value} {K : List Value → Prop}
    (h : ∀ v outs, TypedL ts outs → sat P (drawSpec ts (drawPre cb) :: specsOf Fs) t (v :: outs) [] K) (hp : (lawF cb).pre ins) (hK : K [.bool true]) :
    sat P (drawSpec ts (drawPre cb) :: specsOf Fs) (.ite (.cmp .gtr (.len (.var 0)) (.int .i64 1048576)) (.ret [.bool true]) (.evs [.call 0 [.var 0] none n] t)) ins [] K := by
  obtain ⟨a, m, cap, rfl, hm, hg⟩ := hp
  refine ⟨fun _ => hK, fun hc => ?_⟩
  have hm2 : m ≤ 1048576 := by
    have hc : Value.bool (decide ((m : Int) > 1048576)) = .bool false := hc
    simp only [Value.bool.injEq, decide_eq_false_iff_not] at hc
    omega
  exact ⟨⟨_, rfl, hg hm2⟩, fun outs ht => h (.slice a m cap) outs ht⟩
/-! what the law reckons -/
def fdH (g : Nat → Int) : Nat → Int := nttH 16 (realQ (tri g 0)) (fdD (tri g 0))
def fdO (g : Nat → Int) : Bool := nttT 16 (realQ (tri g 0)) (fdD (tri g 0))
def fdT (g : Nat → Int) : List Value := ivs (fdH g) 0 48
def iQ : Q := (0, 1, 1)
def fdA (g : Nat → Int) : List Value := fdT g ++ ivs (stH oneQ iQ) 0 12
def fdP : Bool := !(stk oneQ iQ).2
def fdX (g : Nat → Int) : List Value := ivs (nttH 4 (apQ (fdA g)) (apD (fdA g))) 0 12
def fdY (g : Nat → Int) : Bool := nttT 4 (apQ (fdA g)) (apD (fdA g))
def fdS (g : Nat → Int) : Bool := !(sqI fun k => q3 (fdX g) (3 * k)).2
def kpB (l : List Value) : Bool := enB l && allB (fun k => inUnit (kX l k)) 0 6
def fdL (g : Nat → Int) : Value := if toB (.bool (decide (g 0 < IntKind.i64.wrap (0 - g 2)))) = true then .bool true else .bool (decide (g 0 > g 2))
def fd1 (g : Nat → Int) : Value := if toB (.bool (!toB (fdL g))) = true then .bool fdP else .bool false
def fd2 (g : Nat → Int) (kp : Value) : Value := if toB (if toB (.bool (!toB (fdL g))) = true then (if toB (.bool fdP) = true then kp else .bool false) else .bool false) = true then .bool (!toB (if toB (.bool (!fdY g)) = true then .bool true else .bool (!fdS g))) else .bool false
def fdR (g : Nat → Int) (kp lt : Value) : Value := if toB (fdL g) = true then .bool true else (if toB (if toB (.bool fdP) = true then kp else .bool false) = true then (if toB (if toB (.bool (!fdY g)) = true then .bool true else .bool (!fdS g)) = true then .bool true else lt) else .bool false)
def fdK (g : Nat → Int) (K : List Value → Prop) (kp : Value) : Prop := (toB (fd2 g kp) = true → True ∧ K [fdR g kp (.bool (ltB fun k => q3 (fdX g) (3 * k)))]) ∧ (toB (fd2 g kp) = false → K [fdR g kp undef])
def fdC (g : Nat → Int) : Value := if toB (if toB (.bool (!(fdO g == fdO g))) = true then .bool true else .bool (!toB (eqL (fdH g) (fdH g) 0 48))) = true then .bool true else .bool (!fdO g)
theorem fd_eq : (fun (P : Program) (sp : Spec) (v : Value) (g : Nat → Int) (K : List Value → Prop) => sat P (sp :: specsOf Fs_FnFade) tl_FnFade (v :: ivs g 0 3) [] K) = fun P sp v g K =>
    (True ∧ True ∧ ((fdC g = .bool true → K [if toB (.bool (fdO g == fdO g)) = true then eqL (fdH g) (fdH g) 0 48 else .bool false]) ∧ (fdC g = .bool false → True ∧ True ∧ True ∧
      ((toB (fd1 g) = true → True ∧ fdK g K (.bool (kpB (fdT g)))) ∧ (toB (fd1 g) = false → fdK g K undef))))) := by kernel_rfl
theorem allB_of {p : Nat → Bool} : ∀ (n k : Nat), (∀ i, k ≤ i → i < k + n → p i = true) → allB p k n = true
  | 0, _, _ => rfl
  | n + 1, k, h => by
    rw [allB, h k (Nat.le_refl _) (by omega), allB_of n (k + 1) fun i h1 h2 => h i (by omega) (by omega)]
    rfl
/-! rows of the fading table -/
theorem fd_tri {g : Nat → Int} (h : realQ (tri g 0) = true) {k : Nat} : tri (fdH g) (3 * k) = dgF (tri g 0) k := by
  have hO : nttT 16 (realQ (tri g 0)) (fdD (tri g 0)) = true := by
    unfold nttT
    rw [h, Bool.true_and]
    exact allB_of 16 0 fun k _ _ => rfl
  exact ntt_tri hO rfl
theorem fd_O {g : Nat → Int} : fdO g = realQ (tri g 0) := by
  unfold fdO nttT
  rw [show allB (fun i => (fdD (tri g 0) i).isSome) 0 16 = true from allB_of 16 0 fun k _ _ => rfl, Bool.and_true]
def mnQ : Q := (-1, 0, 1)
theorem mn_re : reR mnQ = -1 := by decide +kernel
theorem mn_im : imR mnQ = 0 := by decide +kernel
theorem mn_valid : validQ mnQ = true := by decide
theorem kd_three {k : Nat} (hk : k < 6) {j : Nat} (hj : j < 4) : q3 (kd k) (3 * j) = oneQ ∨ q3 (kd k) (3 * j) = mnQ ∨ q3 (kd k) (3 * j) = nil1 := by
  rcases (by omega : k = 0 ∨ k = 1 ∨ k = 2 ∨ k = 3 ∨ k = 4 ∨ k = 5) with rfl | rfl | rfl | rfl | rfl | rfl <;> rcases (by omega : j = 0 ∨ j = 1 ∨ j = 2 ∨ j = 3) with rfl | rfl | rfl | rfl <;> decide
theorem neg_real {c : Q} (h : realQ c = true) : realQ (-c.1, 0, c.2.2) = true := by
  obtain ⟨a, b, d⟩ := c
  unfold realQ validQ at h ⊢
  simp only [Bool.and_eq_true, beq_iff_eq] at h ⊢
  obtain ⟨h1, rfl⟩ := h
  refine ⟨?_, trivial⟩
  unfold validI gcd3 at h1 ⊢
  simp only [Bool.and_eq_true, inRg_iff, beq_iff_eq, Int.natAbs_neg] at h1 ⊢
  obtain ⟨h2, h3, h4, h5⟩ := h1
  refine ⟨?_, h3, h4, h5⟩
  unfold inR at h2 ⊢
  simp only [Bool.and_eq_true, decide_eq_true_eq] at h2 ⊢
  omega
theorem neg_times {c : Q} (h : realQ c = true) : timesQ c mnQ = some (-c.1, 0, c.2.2) := by
  have hn := neg_real h
  refine times_of (realQ_valid h) mn_valid (realQ_valid hn) ?_ ?_
  · rw [mn_re, mn_im, realQ_im h]
    unfold reR
    rw [Rat.intCast_neg]
    grind
  · rw [mn_re, mn_im, realQ_im h, realQ_im hn]
    grind
theorem one_timesQ {v : Q} (h : validQ v = true) : timesQ oneQ v = some v := by rw [times_comm]; exact times_oneQ h
theorem nil_timesQ {v : Q} (h : validQ v = true) : timesQ nil1 v = some nil1 := by rw [times_comm]; exact times_nilQ h
theorem dot_one {x y : Nat → Q} {i : Nat} (hi : i < 4) (hx : ∀ j, j < 4 → j ≠ i → x j = nil1) (hy : ∀ j, j < 4 → validQ (y j) = true) {v : Q} (hv : timesQ (x i) (y i) = some v) : dotQ x y = some v := by
  have vv := times_valid hv
  rcases (by omega : i = 0 ∨ i = 1 ∨ i = 2 ∨ i = 3) with rfl | rfl | rfl | rfl
  · simp only [dotQ, hv, hx 1 (by omega) (by omega), hx 2 (by omega) (by omega), hx 3 (by omega) (by omega), nil_timesQ (hy 1 (by omega)), nil_timesQ (hy 2 (by omega)), nil_timesQ (hy 3 (by omega)), Option.bind_some, add_nilQ vv]
  · simp only [dotQ, hv, hx 0 (by omega) (by omega), hx 2 (by omega) (by omega), hx 3 (by omega) (by omega), nil_timesQ (hy 0 (by omega)), nil_timesQ (hy 2 (by omega)), nil_timesQ (hy 3 (by omega)), Option.bind_some, add_nilQ vv, add_nil vv]
  · simp only [dotQ, hv, hx 0 (by omega) (by omega), hx 1 (by omega) (by omega), hx 3 (by omega) (by omega), nil_timesQ (hy 0 (by omega)), nil_timesQ (hy 1 (by omega)), nil_timesQ (hy 3 (by omega)), Option.bind_some, add_nilQ nil1_valid, add_nilQ vv, add_nil vv]
  · simp only [dotQ, hv, hx 0 (by omega) (by omega), hx 1 (by omega) (by omega), hx 2 (by omega) (by omega), nil_timesQ (hy 0 (by omega)), nil_timesQ (hy 1 (by omega)), nil_timesQ (hy 2 (by omega)), Option.bind_some, add_nilQ nil1_valid, add_nil vv]
theorem dg_row (c : Q) {i j : Nat} (hi : i < 4) (hj : j < 4) : rowF (dgF c) i j = if j = i then (if i = 0 then oneQ else c) else nil1 := by
  unfold rowF dgF
  rcases (by omega : i = 0 ∨ i = 1 ∨ i = 2 ∨ i = 3) with rfl | rfl | rfl | rfl <;> rcases (by omega : j = 0 ∨ j = 1 ∨ j = 2 ∨ j = 3) with rfl | rfl | rfl | rfl <;> rfl
theorem dg_dot {c : Q} (h : realQ c = true) {k : Nat} (hk : k < 6) {i : Nat} (hi : i < 4) : ∃ v, dotQ (rowF (dgF c) i) (fun j => q3 (kd k) (3 * j)) = some v ∧ (i = 0 → v = oneQ) := by
  have hy : ∀ j, j < 4 → validQ (q3 (kd k) (3 * j)) = true := fun j hj => realQ_valid (kd_real k hk j hj)
  have hx : ∀ j, j < 4 → j ≠ i → rowF (dgF c) i j = nil1 := fun j hj hn => by rw [dg_row c hi hj, if_neg hn]
  have hxi : rowF (dgF c) i i = if i = 0 then oneQ else c := by rw [dg_row c hi hi, if_pos rfl]
  have hc : ∃ v, timesQ (rowF (dgF c) i i) (q3 (kd k) (3 * i)) = some v ∧ (i = 0 → v = oneQ) := by
    rw [hxi]
    by_cases h0 : i = 0
    · subst h0
      have e : q3 (kd k) (3 * 0) = oneQ := rfl
      exact ⟨oneQ, by rw [if_pos rfl, e]; exact times_oneQ oneQ_valid, fun _ => rfl⟩
    · rw [if_neg h0]
      rcases kd_three hk hi with e | e | e <;> rw [e]
      · exact ⟨c, times_oneQ (realQ_valid h), fun h => absurd h h0⟩
      · exact ⟨_, neg_times h, fun h => absurd h h0⟩
      · exact ⟨nil1, times_nilQ (realQ_valid h), fun h => absurd h h0⟩
  obtain ⟨v, hv, h1⟩ := hc
  exact ⟨v, dot_one hi hx hy hv, h1⟩
theorem dg_real {c : Q} (h : realQ c = true) (k : Nat) : realQ (dgF c k) = true := by
  unfold dgF
  split
  · exact one_real
  · split
    · exact h
    · exact nil_real
/-- The fading table keeps the energy. -/
theorem fade_keeps {g : Nat → Int} (h : realQ (tri g 0) = true) : kpB (fdT g) = true := by
  have key : ∀ k, k < 6 → kOk (fdT g) k = true ∧ kX (fdT g) k = oneQ := by
    intro k hk
    obtain ⟨e1, e2⟩ := kd_get (fdH g) k
    have e1 : ∀ j, j < 16 → q3 (fdT g ++ kd k) (3 * j) = dgF (tri g 0) j := fun j hj => (e1 j hj).trans (fd_tri h)
    have e2 : ∀ j, j < 4 → q3 (fdT g ++ kd k) (48 + 3 * j) = q3 (kd k) (3 * j) := e2
    have hd : ∀ i, i < 4 → ∃ v, apD (fdT g ++ kd k) i = some v ∧ (i = 0 → v = oneQ) := by
      intro i hi
      unfold apD
      rw [dot_congr (row_congr e1 hi) e2]
      exact dg_dot h hk hi
    have hq : apQ (fdT g ++ kd k) = true := by
      unfold apQ tabQ stQ
      rw [allB_of 16 0 fun j _ hj => by dsimp only; rw [e1 j (by omega)]; exact dg_real h j, allB_of 4 0 fun j _ hj => by dsimp only; rw [e2 j (by omega)]; exact kd_real k hk j (by omega)]
      rfl
    have hO : nttT 4 (apQ (fdT g ++ kd k)) (apD (fdT g ++ kd k)) = true := by
      unfold nttT
      rw [hq, Bool.true_and]
      refine allB_of 4 0 fun i _ hi => ?_
      obtain ⟨v, hv, _⟩ := hd i (by omega)
      rw [hv]; rfl
    obtain ⟨v, hv, h0⟩ := hd 0 (by omega)
    have : tri (nttH 4 (apQ (fdT g ++ kd k)) (apD (fdT g ++ kd k))) (3 * 0) = v := ntt_tri hO hv
    exact ⟨hO, by rw [← h0 rfl, ← this]; rfl⟩
  unfold kpB enB
  rw [allB_of 6 0 fun k _ hk => (key k (by omega)).1, allB_of 6 0 fun k _ hk => by rw [(key k (by omega)).2]; decide]
  rfl
theorem fd_st : ∀ j, j < 4 → tri (stH oneQ iQ) (3 * j) = if j = 0 then (2, 0, 1) else if j = 3 then (-2, 0, 1) else nil1 := get4 (by decide +kernel) (by decide +kernel) (by decide +kernel) (by decide +kernel)
theorem fdA_get (g : Nat → Int) : (∀ j, j < 16 → q3 (fdA g) (3 * j) = tri (fdH g) (3 * j)) ∧ ∀ j, j < 4 → q3 (fdA g) (48 + 3 * j) = tri (stH oneQ iQ) (3 * j) :=
  ⟨get16 rfl rfl rfl rfl rfl rfl rfl rfl rfl rfl rfl rfl rfl rfl rfl rfl, get4 rfl rfl rfl rfl⟩
theorem fdX_get (g : Nat → Int) : ∀ j, j < 4 → q3 (fdX g) (3 * j) = tri (nttH 4 (apQ (fdA g)) (apD (fdA g))) (3 * j) := get4 rfl rfl rfl rfl
theorem q2_re : reR (2, 0, 1) = 2 := by decide +kernel
theorem q2m_re : reR (-2, 0, 1) = -2 := by decide +kernel
/-- What the fading table makes of that light. -/
theorem fade_x {g : Nat → Int} (h : realQ (tri g 0) = true) (hY : fdY g = true) : ∀ i, i < 4 → realQ (q3 (fdX g) (3 * i)) = true ∧
    reR (q3 (fdX g) (3 * i)) = if i = 0 then 2 else if i = 3 then reR (tri g 0) * -2 else 0 := by
  intro i hi
  obtain ⟨v, hv⟩ := (nttT_ok hY).2 i hi
  have hx : tri (nttH 4 (apQ (fdA g)) (apD (fdA g))) (3 * i) = v := ntt_tri hY hv
  rw [fdX_get g i hi, hx]
  obtain ⟨e1, e2⟩ := fdA_get g
  unfold apD at hv
  rw [dot_congr (row_congr (fun j hj => (e1 j hj).trans (fd_tri h)) hi) (fun j hj => (e2 j hj).trans (fd_st j hj))] at hv
  obtain ⟨d1, d2, d3⟩ := dot_val hv (fun j hj => realQ_im (dg_real h _)) (fun j hj => by rcases (by omega : j = 0 ∨ j = 1 ∨ j = 2 ∨ j = 3) with rfl | rfl | rfl | rfl <;> decide +kernel)
  refine ⟨realQ_of d3 d2, ?_⟩
  rw [d1, dg_row _ hi (by omega), dg_row _ hi (by omega), dg_row _ hi (by omega), dg_row _ hi (by omega)]
  have a0 : reR (if 0 = 0 then ((2, 0, 1) : Q) else if 0 = 3 then (-2, 0, 1) else nil1) = 2 := q2_re
  have a1 : reR (if 1 = 0 then ((2, 0, 1) : Q) else if 1 = 3 then (-2, 0, 1) else nil1) = 0 := nilQ_re
  have a2 : reR (if 2 = 0 then ((2, 0, 1) : Q) else if 2 = 3 then (-2, 0, 1) else nil1) = 0 := nilQ_re
  have a3 : reR (if 3 = 0 then ((2, 0, 1) : Q) else if 3 = 3 then (-2, 0, 1) else nil1) = -2 := q2m_re
  rw [a0, a1, a2, a3]
  have b0 := oneQ_re
  have b1 := nilQ_re
  rcases (by omega : i = 0 ∨ i = 1 ∨ i = 2 ∨ i = 3) with rfl | rfl | rfl | rfl
  · show reR oneQ * 2 + reR nil1 * 0 + reR nil1 * 0 + reR nil1 * -2 = 2
    rw [b0, b1]; grind
  · show reR nil1 * 2 + reR (tri g 0) * 0 + reR nil1 * 0 + reR nil1 * -2 = 0
    rw [b1]; grind
  · show reR nil1 * 2 + reR nil1 * 0 + reR (tri g 0) * 0 + reR nil1 * -2 = 0
    rw [b1]; grind
  · show reR nil1 * 2 + reR nil1 * 0 + reR nil1 * 0 + reR (tri g 0) * -2 = reR (tri g 0) * -2
    rw [b1]; grind
theorem sq_val {a : Nat → Q} (h : (sqI a).2 = false) : stQ a = true ∧ realQ (sqI a).1 = true ∧ reR (sqI a).1 = reR (a 1) * reR (a 1) + reR (a 2) * reR (a 2) + reR (a 3) * reR (a 3) := by
  unfold sqI opS at h ⊢
  simp only [Bool.or_eq_false_iff, Bool.not_eq_false', Bool.false_or, Bool.not_eq_eq_eq_not, Bool.not_false] at h
  obtain ⟨⟨⟨⟨⟨h0, h1⟩, h2⟩, h3⟩, h4⟩, h5⟩ := h
  have e1 := some_getD h1
  have e2 := some_getD h2
  have e3 := some_getD h3
  have e4 := some_getD h4
  have e5 := some_getD h5
  obtain ⟨p1, p2⟩ := times_val e1
  obtain ⟨q1, q2⟩ := times_val e2
  obtain ⟨r1, r2⟩ := add_val e3
  obtain ⟨s1, s2⟩ := times_val e4
  obtain ⟨t1, t2⟩ := add_val e5
  have i1 := realQ_im (st_get h0 1 (by omega))
  have i2 := realQ_im (st_get h0 2 (by omega))
  have i3 := realQ_im (st_get h0 3 (by omega))
  refine ⟨h0, realQ_of (add_valid e5) ?_, ?_⟩
  · dsimp only
    rw [t2, r2, p2, q2, s2, i1, i2, i3]; grind
  · dsimp only
    rw [t1, r1, p1, q1, s1, i1, i2, i3]; grind
theorem four_re : reR (4, 0, 1) = 4 := by decide +kernel
theorem four_real : realQ (4, 0, 1) = true := by decide
theorem two_times : timesQ (2, 0, 1) (2, 0, 1) = some (4, 0, 1) := by decide +kernel
theorem two_real : realQ (2, 0, 1) = true := by decide
theorem light_of {a : Nat → Q} {c : Rat} (h1 : -1 ≤ c) (h2 : c ≤ 1) (hx : ∀ i, i < 4 → realQ (a i) = true ∧ reR (a i) = if i = 0 then 2 else if i = 3 then c * -2 else 0) (hS : (sqI a).2 = false) : ltB a = true := by
  obtain ⟨_, v1, v2⟩ := sq_val hS
  obtain ⟨r0, x0⟩ := hx 0 (by omega)
  have e0 : a 0 = (2, 0, 1) := val_inj (realQ_valid r0) (realQ_valid two_real) (by rw [x0, q2_re]; rfl) (by rw [realQ_im r0, realQ_im two_real])
  have x1 : reR (a 1) = 0 := (hx 1 (by omega)).2
  have x2 : reR (a 2) = 0 := (hx 2 (by omega)).2
  have x3 : reR (a 3) = c * -2 := (hx 3 (by omega)).2
  rw [x1, x2, x3] at v2
  have eg : gtQ (sqI a) = (sqI a).1 := by unfold gtQ; rw [hS]; rfl
  have gg : exG a = true := by
    unfold exG
    rw [hS, e0, two_times]; rfl
  have hc : ¬ cmpF (4, 0, 1) (sqI a).1 < 0 := fun hh => by
    have hh := (cmpF_lt four_real v1).1 hh
    rw [four_re, v2] at hh
    have hp : 0 ≤ (1 - c) * (1 + c) := Rat.mul_nonneg (by grind) (by grind)
    grind
  have hn : exN a = cmpF (4, 0, 1) (sqI a).1 := by
    unfold exN
    rw [if_pos gg, eg, e0, two_times]; rfl
  have hb : exB a = true := by
    unfold exB
    rw [gg, eg, v1, e0, two_times]; decide
  unfold ltB
  rw [hb, hn, e0, decide_eq_true (by omega : cmpF (4, 0, 1) (sqI a).1 ≥ 0)]
  rfl
theorem fade_light {g : Nat → Int} (h : realQ (tri g 0) = true) (h1 : -1 ≤ reR (tri g 0)) (h2 : reR (tri g 0) ≤ 1) (hY : fdY g = true) (hS : fdS g = true) : ltB (fun k => q3 (fdX g) (3 * k)) = true := by
  unfold fdS at hS
  exact light_of h1 h2 (fade_x h hY) (by simpa using hS)
theorem fdP_true : fdP = true := by decide +kernel
theorem fdL_bool (g : Nat → Int) : ∃ b, fdL g = .bool b := by
  unfold fdL
  split
  · exact ⟨true, rfl⟩
  · exact ⟨_, rfl⟩
theorem fdL_unit {g : Nat → Int} (h : realQ (tri g 0) = true) (hL : fdL g = .bool false) : -1 ≤ reR (tri g 0) ∧ reR (tri g 0) ≤ 1 := by
  have hd : 1 ≤ g 2 := valid_den (realQ_valid h)
  have hb : g 2 ≤ 2000000000 := by
    have := realQ_valid h
    unfold validQ validI at this
    simp only [Bool.and_eq_true, inRg_iff] at this
    exact this.2.2.1.2
  have p2 : (0 : Rat) < (g 2 : Rat) := by
    have : (0 : Int) < g 2 := by omega
    exact_mod_cast this
  unfold fdL at hL
  rw [wrap_in (z := 0 - g 2) (by omega)] at hL
  by_cases hl : g 0 < 0 - g 2
  · rw [decide_eq_true hl] at hL
    cases hL
  · rw [decide_eq_false hl] at hL
    have hh : ¬ g 0 > g 2 := by
      have := Value.bool.inj hL
      exact of_decide_eq_false this
    have e : reR (tri g 0) = (g 0 : Rat) / (g 2 : Rat) := rfl
    refine ⟨?_, ?_⟩
    · have : ¬ reR (tri g 0) < -1 := fun hlt => by
        rw [e, Rat.div_lt_iff p2] at hlt
        have : (g 0 : Rat) < ((-(g 2) : Int) : Rat) := by rw [Rat.intCast_neg]; grind
        rw [Rat.intCast_lt_intCast] at this
        omega
      grind
    · have : ¬ 1 < reR (tri g 0) := fun hlt => by
        rw [e, Rat.lt_div_iff p2, Rat.one_mul, Rat.intCast_lt_intCast] at hlt
        omega
      grind
theorem sat_FnFade (P : Program) (cb : CodeB) (ins : List Value) (K : List Value → Prop) (_ : TypedL [.sl] ins) (hp : (lawF cb).pre ins) (hK : K [.bool true]) : sat P (Ss_FnFade cb) tr_FnFade ins [] K := by
  rw [sh_FnFade]
  refine sat_drawsS (fun v outs ht => ?_) hp hK
  obtain ⟨g, r, rfl, h1, _⟩ := ints_lit 3 0 (ts := []) ht
  obtain rfl := ints0 h1
  rw [List.append_nil]
  refine Eq.mpr (congrFun (congrFun (congrFun (congrFun (congrFun fd_eq P) _) v) g) K) ⟨trivial, trivial, ?_⟩
  have hE : eqL (fdH g) (fdH g) 0 48 = .bool true := eqL_true _ _ fun _ _ _ => rfl
  rw [hE, beq_self_eq_true]
  refine ⟨fun _ => hK, fun hC => ⟨trivial, trivial, trivial, ?_⟩⟩
  have hO : fdO g = true := by
    unfold fdC at hC
    rw [hE, beq_self_eq_true] at hC
    cases h : fdO g with
    | true => rfl
    | false => rw [h] at hC; cases hC
  have hr : realQ (tri g 0) = true := by rw [← fd_O]; exact hO
  obtain ⟨b, hb⟩ := fdL_bool g
  cases b with
  | true =>
    have e1 : fd1 g = .bool false := by unfold fd1; rw [hb]; rfl
    rw [e1]
    refine ⟨fun h => (by cases h), fun _ => ?_⟩
    have e2 : fd2 g undef = .bool false := by unfold fd2; rw [hb]; rfl
    unfold fdK
    rw [e2]
    refine ⟨fun h => (by cases h), fun _ => ?_⟩
    have e3 : fdR g undef undef = .bool true := by unfold fdR; rw [hb]; rfl
    rw [e3]
    exact hK
  | false =>
    obtain ⟨u1, u2⟩ := fdL_unit hr hb
    have e1 : fd1 g = .bool true := by unfold fd1; rw [hb, fdP_true]; rfl
    rw [e1, fade_keeps hr]
    refine ⟨fun _ => ⟨trivial, ?_⟩, fun h => (by cases h)⟩
    unfold fdK fd2 fdR
    rw [hb, fdP_true]
    cases hY : fdY g with
    | false => exact ⟨fun h => (by cases h), fun _ => hK⟩
    | true =>
      cases hS : fdS g with
      | false => exact ⟨fun h => (by cases h), fun _ => hK⟩
      | true =>
        rw [fade_light hr u1 u2 hY hS]
        exact ⟨fun _ => ⟨trivial, hK⟩, fun h => (by cases h)⟩

end Go.Sx

/- What the functions reckon, by their trees. -/
import Derived.Test.YtnlgkipjpbdodaaDoorEe
import Derived.KernelRfl
namespace Go.Sx
open Go
set_option maxRecDepth 100000
set_option linter.unusedSimpArgs false
set_option linter.unusedVariables false

def tr_size : Tr :=
  (.ret [(.mx false .i64 (.var 0) (.ar .sub .i64 (.int .i64 0) (.var 0)))])
def Fs_size : List Fun1 := []
def F_size : Fun1 := ofTree Fs_size tr_size

def tr_within : Tr :=
  (.ret [(.ite (.cmp .geq (.var 0) (.var 1)) (.cmp .leq (.var 0) (.var 2)) (.bool false))])
def Fs_within : List Fun1 := []
def F_within : Fun1 := ofTree Fs_within tr_within
def G_within : Fun1 := ⟨fun _ => True, fun ins => [.bool (inRg (i0 ins 0) (i0 ins 1) (i0 ins 2))]⟩
theorem as_within (ins : List Value) (ht : TypedL [.int .i64, .int .i64, .int .i64] ins) (_ : G_within.pre ins) : F_within.pre ins ∧ F_within.out ins = G_within.out ins := by
  obtain ⟨a, b, c, rfl, _, _, _⟩ := ints3 ht
  refine ⟨trivial, ?_⟩
  show [if (decide (a ≥ b)) = true then Value.bool (decide (a ≤ c)) else Value.bool false] = [Value.bool (decide (b ≤ a) && decide (a ≤ c))]
  by_cases h : b ≤ a <;> simp [h]

def tr_l6In : Tr :=
  (.ret [(.ite (.cmp .geq (.var 0) (.var 1)) (.cmp .leq (.var 0) (.var 2)) (.bool false))])
def Fs_l6In : List Fun1 := []
def F_l6In : Fun1 := ofTree Fs_l6In tr_l6In
def G_l6In : Fun1 := ⟨fun _ => True, fun ins => [.bool (inRg (i0 ins 0) (i0 ins 1) (i0 ins 2))]⟩
theorem as_l6In (ins : List Value) (ht : TypedL [.int .i64, .int .i64, .int .i64] ins) (_ : G_l6In.pre ins) : F_l6In.pre ins ∧ F_l6In.out ins = G_l6In.out ins := by
  obtain ⟨a, b, c, rfl, _, _, _⟩ := ints3 ht
  refine ⟨trivial, ?_⟩
  show [if (decide (a ≥ b)) = true then Value.bool (decide (a ≤ c)) else Value.bool false] = [Value.bool (decide (b ≤ a) && decide (a ≤ c))]
  by_cases h : b ≤ a <;> simp [h]
def A_l6In : AF := aAny 1
theorem aok_l6In {cb : CodeB} : AOK cb G_l6In A_l6In := aAny_ok (fun _ => trivial) (fun ins => by rfl)

def tr_l2In : Tr :=
  (.evs [.call 0 [(.var 0), (.int .i64 (-2000000000)), (.int .i64 2000000000)] none 1]
  (.ret [(.var 1)]))
def Fs_l2In : List Fun1 := [G_l6In]
def F_l2In : Fun1 := ofTree Fs_l2In tr_l2In
def G_l2In : Fun1 := ⟨fun _ => True, fun ins => [.bool (inR (i0 ins 0))]⟩
theorem as_l2In (ins : List Value) (ht : TypedL [.int .i64] ins) (_ : G_l2In.pre ins) : F_l2In.pre ins ∧ F_l2In.out ins = G_l2In.out ins := by
  obtain ⟨a, rfl, _⟩ := ints1 ht
  exact ⟨⟨⟨trivial, trivial⟩, trivial⟩, rfl⟩

def tr_divisor : Tr :=
  (.lp 0 [(.var 0), (.var 1)] [.int .i64, .int .i64]
  (.ite (.cmp .neq (.var 3) (.int .i64 0))
   (.evs [.need [(.cmp .neq (.var 3) (.int .i64 0))]]
    (.next 0 [(.var 3), (.ar .rem .i64 (.var 2) (.var 3))]))
   (.ret [(.var 2)])))
def Fs_divisor : List Fun1 := []
def F_divisor : Fun1 := ⟨fun _ => True, fun ins => [.int .i64 (euc (i0 ins 0) (i0 ins 1))]⟩
theorem sat_divisor (P : Program) (ins : List Value) (K : List Value → Prop) (ht : TypedL [.int .i64, .int .i64] ins) (_ : F_divisor.pre ins) (hK : K (F_divisor.out ins)) : sat P (specsOf Fs_divisor) tr_divisor ins [] K := by
  obtain ⟨a, b, rfl, wa, wb⟩ := ints2 ht
  refine ⟨fun vs => ∃ x y, vs = [.int .i64 x, .int .i64 y] ∧ euc x y = euc a b, fun vs => (toI (vs.getD 1 undef)).natAbs, ⟨a, b, rfl, rfl⟩, ?_⟩
  rintro vs hty ⟨x, y, rfl, he⟩
  refine ⟨fun hc => ?_, fun hc => ?_⟩
  · have hy : y ≠ 0 := by simpa [ev, cmpI] using hc
    refine ⟨fun e he' => by rw [List.mem_singleton.1 he']; exact hc, ⟨_, _, rfl, ?_⟩, ?_⟩
    · rw [← he, euc_step hy]; rfl
    · show (x.tmod y).natAbs < y.natAbs
      rw [Int.natAbs_tmod]
      exact Nat.mod_lt _ (by omega)
  · have hy : y = 0 := by simpa [ev, cmpI] using hc
    subst hy
    rw [euc_zero] at he
    show K [.int .i64 x]
    rw [he]
    exact hK

def tr_l2Gcd : Tr :=
  (.lp 0 [(.var 0), (.var 1)] [.int .i64, .int .i64]
  (.ite (.cmp .neq (.var 3) (.int .i64 0))
   (.evs [.need [(.cmp .neq (.var 3) (.int .i64 0))]]
    (.next 0 [(.var 3), (.ar .rem .i64 (.var 2) (.var 3))]))
   (.ret [(.mx false .i64 (.var 2) (.ar .sub .i64 (.int .i64 0) (.var 2)))])))
def Fs_l2Gcd : List Fun1 := []
def F_l2Gcd : Fun1 := ⟨fun _ => True, fun ins => [.int .i64 (mxI false (euc (i0 ins 0) (i0 ins 1)) (IntKind.i64.wrap (0 - euc (i0 ins 0) (i0 ins 1))))]⟩
theorem sat_l2Gcd (P : Program) (ins : List Value) (K : List Value → Prop) (ht : TypedL [.int .i64, .int .i64] ins) (_ : F_l2Gcd.pre ins) (hK : K (F_l2Gcd.out ins)) : sat P (specsOf Fs_l2Gcd) tr_l2Gcd ins [] K := by
  obtain ⟨a, b, rfl, wa, wb⟩ := ints2 ht
  refine ⟨fun vs => ∃ x y, vs = [.int .i64 x, .int .i64 y] ∧ euc x y = euc a b, fun vs => (toI (vs.getD 1 undef)).natAbs, ⟨a, b, rfl, rfl⟩, ?_⟩
  rintro vs hty ⟨x, y, rfl, he⟩
  refine ⟨fun hc => ?_, fun hc => ?_⟩
  · have hy : y ≠ 0 := by simpa [ev, cmpI] using hc
    refine ⟨fun e he' => by rw [List.mem_singleton.1 he']; exact hc, ⟨_, _, rfl, ?_⟩, ?_⟩
    · rw [← he, euc_step hy]; rfl
    · show (x.tmod y).natAbs < y.natAbs
      rw [Int.natAbs_tmod]
      exact Nat.mod_lt _ (by omega)
  · have hy : y = 0 := by simpa [ev, cmpI] using hc
    subst hy
    rw [euc_zero] at he
    show K [.int .i64 (mxI false x (IntKind.i64.wrap (0 - x)))]
    rw [he]
    exact hK

def tr_lowest : Tr :=
  (.evs [.call 0 [(.var 0)] none 1,
    .call 0 [(.var 1)] none 1,
    .call 1 [(.var 3), (.var 4)] none 1,
    .call 1 [(.var 5), (.var 2)] none 1]
  (.evs [.need [(.cmp .neq (.var 6) (.int .i64 0)), (.cmp .neq (.var 6) (.int .i64 0)), (.cmp .neq (.var 6) (.int .i64 0))]]
  (.evs [.call 2 [(.ar .quo .i64 (.var 0) (.var 6)), (.int .i64 (-2000000000)), (.int .i64 2000000000)] none 1,
    .call 2 [(.ar .quo .i64 (.var 1) (.var 6)), (.int .i64 (-2000000000)), (.int .i64 2000000000)] (some (.not (.not (.var 7)))) 1]
  (.ite (.ite (.ite (.not (.var 7)) (.bool true) (.not (.var 8))) (.bool true) (.cmp .gtr (.ar .quo .i64 (.var 2) (.var 6)) (.int .i64 2000000000)))
  (.ret [(.int .i64 0), (.int .i64 0), (.int .i64 0), (.bool false)])
  (.ret [(.ar .quo .i64 (.var 0) (.var 6)), (.ar .quo .i64 (.var 1) (.var 6)), (.ar .quo .i64 (.var 2) (.var 6)), (.bool true)])))))
def Fs_lowest : List Fun1 := [F_size, F_divisor, G_within]
def F_lowest : Fun1 := ofTree Fs_lowest tr_lowest
def G_lowest : Fun1 := ⟨fun ins => lowOk (i0 ins 0) (i0 ins 1) (i0 ins 2), fun ins => fr4 (lowI (i0 ins 0) (i0 ins 1) (i0 ins 2))⟩
theorem as_lowest (ins : List Value) (ht : TypedL [.int .i64, .int .i64, .int .i64] ins) (hp : G_lowest.pre ins) : F_lowest.pre ins ∧ F_lowest.out ins = G_lowest.out ins := by
  obtain ⟨a, b, c, rfl, wa, wb, wc⟩ := ints3 ht
  obtain ⟨p1, p2, p3, p4, p5, p6⟩ : lowOk a b c := hp
  have e1 := size_abs ⟨p1, p2⟩
  have e2 := size_abs ⟨p3, p4⟩
  have e3 : euc (a.natAbs : Nat) (b.natAbs : Nat) = (Nat.gcd a.natAbs b.natAbs : Nat) := euc_nat _ _
  have e4 : euc (Nat.gcd a.natAbs b.natAbs : Nat) c = (gcd3 a b c : Nat) := by rw [euc_eq (by omega) (by omega)]; rfl
  have hg : gcd3 a b c ≠ 0 := by have := gcd3_pos (a := a) (b := b) p5; omega
  have hgi : ((gcd3 a b c : Nat) : Int) ≠ 0 := by omega
  have q1 := quo_ok (g := gcd3 a b c) ⟨p1, p2⟩
  have q2 := quo_ok (g := gcd3 a b c) ⟨p3, p4⟩
  have q3 := quo_ok (a := c) (g := gcd3 a b c) ⟨by omega, p6⟩
  simp only [F_lowest, G_lowest, tr_lowest, Fs_lowest, F_size, tr_size, Fs_size, F_divisor, G_within, lowI, arI, ofTree, okT, okE, evalT, evalE, evsIn, ev, callF, preF, hasF, needs, i0, b0, toI_int, toB_bool, List.getD_cons_zero, List.getD_cons_succ, List.cons_append, List.nil_append, List.replicate, if_true, if_false, Bool.false_eq_true, and_true, true_and, implies_true, forall_const, false_implies, cmpI, Bool.not_true, Bool.not_false, Bool.true_and, Bool.false_and, Bool.and_true, Bool.and_false, reduceIte, List.append_nil, reduceCtorEq, e1, e2, e3, e4, q1, q2, q3]
  have r1 : ∀ z, inRg z (-2000000000) 2000000000 = inR z := fun _ => rfl
  simp only [r1]
  cases h1 : inR (a.tdiv (gcd3 a b c)) <;> cases h2 : inR (b.tdiv (gcd3 a b c)) <;> by_cases h3 : c.tdiv (gcd3 a b c) ≤ 2000000000 <;> simp [h1, h2, h3, hgi, hg, fr4, zq] <;> omega

def tr_sFracValid : Tr :=
  (.evs [.call 0 [(.var 0)] none 1,
    .call 0 [(.var 1)] (some (.var 3)) 1,
    .call 1 [(.var 2), (.int .i64 1), (.int .i64 2000000000)] (some (.ite (.var 3) (.var 4) (.bool false))) 1,
    .call 2 [(.var 2), (.var 0)] (some (.ite (.ite (.var 3) (.var 4) (.bool false)) (.var 5) (.bool false))) 1,
    .call 2 [(.var 6), (.var 1)] (some (.ite (.ite (.var 3) (.var 4) (.bool false)) (.var 5) (.bool false))) 1]
  (.ret [(.ite (.ite (.ite (.var 3) (.var 4) (.bool false)) (.var 5) (.bool false)) (.cmp .eql (.var 7) (.int .i64 1)) (.bool false))]))
def Fs_sFracValid : List Fun1 := [G_l2In, G_l6In, F_l2Gcd]
def F_sFracValid : Fun1 := ofTree Fs_sFracValid tr_sFracValid
def G_sFracValid : Fun1 := ⟨fun _ => True, fun ins => [.bool (validI (i0 ins 0) (i0 ins 1) (i0 ins 2))]⟩
theorem as_sFracValid (ins : List Value) (ht : TypedL [.int .i64, .int .i64, .int .i64] ins) (_ : G_sFracValid.pre ins) : F_sFracValid.pre ins ∧ F_sFracValid.out ins = G_sFracValid.out ins := by
  obtain ⟨a, b, c, rfl, wa, wb, wc⟩ := ints3 ht
  have key : inR a = true → inR b = true → inRg c 1 2000000000 = true → mxI false (euc c a) (IntKind.i64.wrap (0 - euc c a)) = (Nat.gcd c.natAbs a.natAbs : Nat) ∧
      mxI false (euc (Nat.gcd c.natAbs a.natAbs : Nat) b) (IntKind.i64.wrap (0 - euc (Nat.gcd c.natAbs a.natAbs : Nat) b)) = (gcd3 a b c : Nat) := by
    intro ha hb hc
    simp only [inR, inRg, Bool.and_eq_true, decide_eq_true_eq] at ha hb hc
    have h0 : Nat.gcd c.natAbs a.natAbs ≤ c.natAbs := Nat.gcd_le_left _ (by omega)
    have hp : 0 < Nat.gcd c.natAbs a.natAbs := Nat.gcd_pos_of_pos_left _ (by omega)
    refine ⟨gcd_small (by omega), ?_⟩
    have h2 : Nat.gcd ((Nat.gcd c.natAbs a.natAbs : Nat) : Int).natAbs b.natAbs ≤ Nat.gcd c.natAbs a.natAbs := Nat.gcd_le_left _ hp
    rw [gcd_small (by omega), Int.natAbs_natCast, gcd3_alt]
  simp only [F_sFracValid, G_sFracValid, tr_sFracValid, Fs_sFracValid, G_l2In, G_l6In, F_l2Gcd, validI, ofTree, okT, okE, evalT, evalE, evsIn, ev, callF, preF, hasF, needs, i0, b0, toI_int, toB_bool, List.getD_cons_zero, List.getD_cons_succ, List.cons_append, List.nil_append, List.replicate, if_true, if_false, Bool.false_eq_true, and_true, true_and, implies_true, forall_const, false_implies, cmpI, Bool.not_true, Bool.not_false, Bool.true_and, Bool.false_and, Bool.and_true, Bool.and_false, reduceIte, List.append_nil, reduceCtorEq]
  cases ha : inR a
  · simp [ha]
  · cases hb : inR b
    · simp [ha, hb]
    · cases hc : inRg c 1 2000000000
      · simp [ha, hb, hc]
      · obtain ⟨k1, k2⟩ := key ha hb hc
        simp only [ha, hb, hc, k1, k2, ofTree, okT, okE, evalT, evalE, evsIn, ev, callF, preF, hasF, needs, i0, b0, toI_int, toB_bool, List.getD_cons_zero, List.getD_cons_succ, List.cons_append, List.nil_append, List.replicate, if_true, if_false, Bool.false_eq_true, and_true, true_and, implies_true, forall_const, false_implies, cmpI, Bool.not_true, Bool.not_false, Bool.true_and, Bool.false_and, Bool.and_true, Bool.and_false, reduceIte, List.append_nil, reduceCtorEq]
        simp
        by_cases h1 : gcd3 a b c = 1
        · simp [h1]
        · rw [beq_eq_false_iff_ne.2 h1, beq_eq_false_iff_ne]
          omega

def tr_l2Low : Tr :=
  (.evs [.call 0 [(.var 2), (.var 0)] none 1,
    .call 0 [(.var 3), (.var 1)] none 1]
  (.evs [.need [(.cmp .neq (.var 4) (.int .i64 0)), (.cmp .neq (.var 4) (.int .i64 0)), (.cmp .neq (.var 4) (.int .i64 0))]]
  (.evs [.call 1 [(.ar .quo .i64 (.var 0) (.var 4)), (.ar .quo .i64 (.var 1) (.var 4)), (.ar .quo .i64 (.var 2) (.var 4))] none 1]
  (.ite (.not (.var 5))
  (.ret [(.int .i64 0), (.int .i64 0), (.int .i64 0), (.bool false)])
  (.ret [(.ar .quo .i64 (.var 0) (.var 4)), (.ar .quo .i64 (.var 1) (.var 4)), (.ar .quo .i64 (.var 2) (.var 4)), (.bool true)])))))
def Fs_l2Low : List Fun1 := [F_l2Gcd, G_sFracValid]
def F_l2Low : Fun1 := ofTree Fs_l2Low tr_l2Low
def G_l2Low : Fun1 := ⟨fun ins => lowOk (i0 ins 0) (i0 ins 1) (i0 ins 2), fun ins => fr4 (lowI (i0 ins 0) (i0 ins 1) (i0 ins 2))⟩
theorem as_l2Low (ins : List Value) (ht : TypedL [.int .i64, .int .i64, .int .i64] ins) (hp : G_l2Low.pre ins) : F_l2Low.pre ins ∧ F_l2Low.out ins = G_l2Low.out ins := by
  obtain ⟨a, b, c, rfl, wa, wb, wc⟩ := ints3 ht
  obtain ⟨p1, p2, p3, p4, p5, p6⟩ : lowOk a b c := hp
  have hc0 : 0 < c.natAbs := by omega
  have g1 : Nat.gcd c.natAbs a.natAbs ≤ c.natAbs := Nat.gcd_le_left _ hc0
  have gp : 0 < Nat.gcd c.natAbs a.natAbs := Nat.gcd_pos_of_pos_left _ hc0
  have e1 : mxI false (euc c a) (IntKind.i64.wrap (0 - euc c a)) = (Nat.gcd c.natAbs a.natAbs : Nat) := gcd_small (by omega)
  have g2 : Nat.gcd ((Nat.gcd c.natAbs a.natAbs : Nat) : Int).natAbs b.natAbs ≤ Nat.gcd c.natAbs a.natAbs := Nat.gcd_le_left _ gp
  have e2 : mxI false (euc (Nat.gcd c.natAbs a.natAbs : Nat) b) (IntKind.i64.wrap (0 - euc (Nat.gcd c.natAbs a.natAbs : Nat) b)) = (gcd3 a b c : Nat) := by
    rw [gcd_small (by omega), Int.natAbs_natCast, gcd3_alt]
  have hg : gcd3 a b c ≠ 0 := by have := gcd3_pos (a := a) (b := b) p5; omega
  have hgi : ((gcd3 a b c : Nat) : Int) ≠ 0 := by omega
  have q1 := quo_ok (g := gcd3 a b c) ⟨p1, p2⟩
  have q2 := quo_ok (g := gcd3 a b c) ⟨p3, p4⟩
  have q3 := quo_ok (a := c) (g := gcd3 a b c) ⟨by omega, p6⟩
  simp only [F_l2Low, G_l2Low, tr_l2Low, Fs_l2Low, F_l2Gcd, G_sFracValid, lowI, arI, ofTree, okT, okE, evalT, evalE, evsIn, ev, callF, preF, hasF, needs, i0, b0, toI_int, toB_bool, List.getD_cons_zero, List.getD_cons_succ, List.cons_append, List.nil_append, List.replicate, if_true, if_false, Bool.false_eq_true, and_true, true_and, implies_true, forall_const, false_implies, cmpI, Bool.not_true, Bool.not_false, Bool.true_and, Bool.false_and, Bool.and_true, Bool.and_false, reduceIte, List.append_nil, reduceCtorEq, e1, e2, q1, q2, q3, valid_low p5]
  cases h1 : inR (a.tdiv (gcd3 a b c)) <;> cases h2 : inR (b.tdiv (gcd3 a b c)) <;> by_cases h3 : c.tdiv (gcd3 a b c) ≤ 2000000000 <;> simp [h1, h2, h3, hgi, hg, fr4, zq] <;> omega
def A_l2Low : AF
  | [.itv a b, .itv c d, .itv e f] => if decide (-9223372036854775808 < a) && (decide (b ≤ 9223372036854775807) && (decide (-9223372036854775808 < c) && (decide (d ≤ 9223372036854775807) && (decide (1 ≤ e) && decide (f ≤ 9223372036854775807))))) then some [.any, .any, .any, .any] else none
  | _ => none
theorem aok_l2Low {cb : CodeB} : AOK cb G_l2Low A_l2Low := by
  intro I O h ins hi
  match I, ins, hi, h with
  | [.itv a b, .itv c d, .itv e f], [x, y, z], ⟨⟨x', hx, x1, x2⟩, ⟨y', hy, y1, y2⟩, ⟨z', hz, z1, z2⟩, _⟩, h =>
    simp only [A_l2Low] at h
    split at h
    · rename_i hc
      cases h
      simp only [Bool.and_eq_true, decide_eq_true_eq] at hc
      subst hx hy hz
      exact ⟨show lowOk x' y' z' by unfold lowOk; omega, trivial, trivial, trivial, trivial, trivial⟩
    · cases h

def tr_sFracMake : Tr :=
  (.evs [.call 0 [(.var 2), (.int .i64 1), (.int .i64 1000000000000000000)] none 1,
    .call 0 [(.var 0), (.int .i64 (-1000000000000000000)), (.int .i64 1000000000000000000)] (some (.not (.not (.var 3)))) 1,
    .call 0 [(.var 1), (.int .i64 (-1000000000000000000)), (.int .i64 1000000000000000000)] (some (.not (.ite (.not (.var 3)) (.bool true) (.not (.var 4))))) 1]
  (.ite (.ite (.ite (.not (.var 3)) (.bool true) (.not (.var 4))) (.bool true) (.not (.var 5)))
  (.ret [(.int .i64 0), (.int .i64 0), (.int .i64 0), (.bool false)])
  (.evs [.call 1 [(.var 0), (.var 1), (.var 2)] none 4]
   (.ret [(.var 6), (.var 7), (.var 8), (.var 9)]))))
def Fs_sFracMake : List Fun1 := [G_l6In, G_l2Low]
def F_sFracMake : Fun1 := ofTree Fs_sFracMake tr_sFracMake
def G_sFracMake : Fun1 := ⟨fun _ => True, fun ins => fr4 (makeI (i0 ins 0) (i0 ins 1) (i0 ins 2))⟩
theorem as_sFracMake (ins : List Value) (ht : TypedL [.int .i64, .int .i64, .int .i64] ins) (hp : G_sFracMake.pre ins) : F_sFracMake.pre ins ∧ F_sFracMake.out ins = G_sFracMake.out ins := by
  obtain ⟨a, b, c, rfl, wa, wb, wc⟩ := ints3 ht
  have hlow : inRg c 1 most = true → inRg a (-most) most = true → inRg b (-most) most = true → lowOk a b c := by
    intro h1 h2 h3
    simp only [inRg, Bool.and_eq_true, decide_eq_true_eq] at h1 h2 h3
    unfold most at h1 h2 h3
    unfold lowOk
    omega
  obtain ⟨x, y, z, t, hx⟩ := fr4_split (lowI a b c)
  simp only [F_sFracMake, G_sFracMake, tr_sFracMake, Fs_sFracMake, G_l6In, G_l2Low, makeI, ofTree, okT, okE, evalT, evalE, evsIn, ev, callF, preF, hasF, needs, i0, b0, toI_int, toB_bool, List.getD_cons_zero, List.getD_cons_succ, List.cons_append, List.nil_append, List.replicate, if_true, if_false, Bool.false_eq_true, and_true, true_and, implies_true, forall_const, false_implies, cmpI, Bool.not_true, Bool.not_false, Bool.true_and, Bool.false_and, Bool.and_true, Bool.and_false, reduceIte, List.append_nil, reduceCtorEq]
  have r1 : inRg c 1 1000000000000000000 = inRg c 1 most := rfl
  have r2 : ∀ z, inRg z (-1000000000000000000) 1000000000000000000 = inRg z (-most) most := fun _ => rfl
  simp only [r1, r2]
  cases h1 : inRg c 1 most
  · simp [h1, fr4, zq]
  · cases h2 : inRg a (-most) most
    · simp [h1, h2, fr4, zq]
    · cases h3 : inRg b (-most) most
      · simp [h1, h2, h3, fr4, zq]
      · simp [h1, h2, h3, hx, hlow h1 h2 h3]
def A_sFracMake : AF := aAny 4
theorem aok_sFracMake {cb : CodeB} : AOK cb G_sFracMake A_sFracMake := aAny_ok (fun _ => trivial) (fun ins => by rfl)

def tr_l5Direction : Tr :=
  (.evs [.call 0 [(.var 0), (.int .i64 (-100)), (.int .i64 100)] none 1,
    .call 0 [(.var 1), (.int .i64 (-100)), (.int .i64 100)] (some (.not (.not (.var 2)))) 1]
  (.ite (.ite (.ite (.not (.var 2)) (.bool true) (.not (.var 3))) (.bool true) (.ite (.cmp .eql (.var 0) (.int .i64 0)) (.cmp .eql (.var 1) (.int .i64 0)) (.bool false)))
  (.ret [(.int .i64 0), (.int .i64 0), (.int .i64 0), (.int .i64 0), (.int .i64 0), (.int .i64 0), (.bool false)])
  (.evs [.call 1 [(.ar .sub .i64 (.ar .mul .i64 (.var 0) (.var 0)) (.ar .mul .i64 (.var 1) (.var 1))), (.int .i64 0), (.ar .add .i64 (.ar .mul .i64 (.var 0) (.var 0)) (.ar .mul .i64 (.var 1) (.var 1)))] none 4]
   (.evs [.call 1 [(.ar .mul .i64 (.ar .mul .i64 (.int .i64 2) (.var 0)) (.var 1)), (.int .i64 0), (.ar .add .i64 (.ar .mul .i64 (.var 0) (.var 0)) (.ar .mul .i64 (.var 1) (.var 1)))] none 4]
   (.ret [(.var 4), (.var 5), (.var 6), (.var 8), (.var 9), (.var 10), (.bool true)])))))
def Fs_l5Direction : List Fun1 := [G_l6In, G_sFracMake]
def F_l5Direction : Fun1 := ofTree Fs_l5Direction tr_l5Direction
def G_l5Direction : Fun1 := ⟨fun _ => True, fun ins => dirV (i0 ins 0) (i0 ins 1)⟩
theorem as_l5Direction (ins : List Value) (ht : TypedL [.int .i64, .int .i64] ins) (hp : G_l5Direction.pre ins) : F_l5Direction.pre ins ∧ F_l5Direction.out ins = G_l5Direction.out ins := by
  obtain ⟨p, q, rfl, wp, wq⟩ := ints2 ht
  obtain ⟨x1, y1, z1, t1, hx1, hx1'⟩ := fr4_fr3 (lowI (p * p - q * q) 0 (p * p + q * q))
  obtain ⟨x2, y2, z2, t2, hx2, hx2'⟩ := fr4_fr3 (lowI (2 * p * q) 0 (p * p + q * q))
  simp only [F_l5Direction, G_l5Direction, tr_l5Direction, Fs_l5Direction, G_l6In, G_sFracMake, arI, ofTree, okT, okE, evalT, evalE, evsIn, ev, callF, preF, hasF, needs, i0, b0, toI_int, toB_bool, List.getD_cons_zero, List.getD_cons_succ, List.cons_append, List.nil_append, List.replicate, if_true, if_false, Bool.false_eq_true, and_true, true_and, implies_true, forall_const, false_implies, cmpI, Bool.not_true, Bool.not_false, Bool.true_and, Bool.false_and, Bool.and_true, Bool.and_false, reduceIte, List.append_nil, reduceCtorEq]
  cases h1 : inRg p (-100) 100
  · simp [h1, dirV, dirOk, dirC, dirS, fr3, zq]
  · cases h2 : inRg q (-100) 100
    · simp [h1, h2, dirV, dirOk, dirC, dirS, fr3, zq]
    · by_cases h3 : (p == 0 && q == 0) = true
      · have e3 := h3
        simp only [Bool.and_eq_true, beq_iff_eq] at e3
        obtain ⟨rfl, rfl⟩ := e3
        simp [h1, dirV, dirOk, dirC, dirS, fr3, zq]
      · have hd : dirOk p q = true := by
          simp only [dirOk, h1, h2, Bool.true_and]
          cases hb : (p == 0 && q == 0) with
          | true => exact absurd hb h3
          | false => rfl
        obtain ⟨l1, l2, w1, w2, w3, w4, w5, w6, k1, k2, k3, k4, k5, k6⟩ := dir_facts hd
        have h3' : (p == 0 && q == 0) = false := by simpa using h3
        have h4 : ¬(p = 0 ∧ q = 0) := by rintro ⟨rfl, rfl⟩; exact h3 rfl
        have m1 := make_small k3 k4 k1 k2
        have m2 := make_small k5 k6 k1 k2
        simp only [m1, m2, dirV, dirC, dirS, hd, if_true, hx1', hx2', w1, w2, w3, w4, w5, w6, hx1, hx2, h1, h2, ofTree, okT, okE, evalT, evalE, evsIn, ev, callF, preF, hasF, needs, i0, b0, toI_int, toB_bool, List.getD_cons_zero, List.getD_cons_succ, List.cons_append, List.nil_append, List.replicate, if_true, if_false, Bool.false_eq_true, and_true, true_and, implies_true, forall_const, false_implies, cmpI, Bool.not_true, Bool.not_false, Bool.true_and, Bool.false_and, Bool.and_true, Bool.and_false, reduceIte, List.append_nil, reduceCtorEq]
        clear m1 m2 k1 k2 k3 k4 k5 k6 hd w1 w2 w3 w4 w5 w6 hx1 hx2 hx1' hx2' h1 h2 ht hp
        generalize p * p - q * q = A at *
        generalize 2 * p * q = B at *
        generalize p * p + q * q = C at *
        by_cases h5 : p = 0
        · by_cases h6 : q = 0
          · exact absurd ⟨h5, h6⟩ h4
          · simp [h5, h6, l1, l2]
        · simp [h5, l1, l2]
def A_l5Direction : AF := aAny 7
theorem aok_l5Direction {cb : CodeB} : AOK cb G_l5Direction A_l5Direction := aAny_ok (fun _ => trivial) (fun ins => by rfl)

def tr_iFracValid : Tr :=
  (.evs [.call 0 [(.var 0), (.int .i64 (-2000000000)), (.int .i64 2000000000)] none 1,
    .call 0 [(.var 1), (.int .i64 (-2000000000)), (.int .i64 2000000000)] (some (.var 3)) 1,
    .call 0 [(.var 2), (.int .i64 1), (.int .i64 2000000000)] (some (.ite (.var 3) (.var 4) (.bool false))) 1,
    .call 2 [(.var 0)] (some (.ite (.ite (.var 3) (.var 4) (.bool false)) (.var 5) (.bool false))) 1,
    .call 2 [(.var 1)] (some (.ite (.ite (.var 3) (.var 4) (.bool false)) (.var 5) (.bool false))) 1,
    .call 1 [(.var 6), (.var 7)] (some (.ite (.ite (.var 3) (.var 4) (.bool false)) (.var 5) (.bool false))) 1,
    .call 1 [(.var 8), (.var 2)] (some (.ite (.ite (.var 3) (.var 4) (.bool false)) (.var 5) (.bool false))) 1]
  (.ret [(.ite (.ite (.ite (.var 3) (.var 4) (.bool false)) (.var 5) (.bool false)) (.cmp .eql (.var 9) (.int .i64 1)) (.bool false))]))
def Fs_iFracValid : List Fun1 := [G_within, F_divisor, F_size]
def F_iFracValid : Fun1 := ofTree Fs_iFracValid tr_iFracValid
def G_iFracValid : Fun1 := ⟨fun _ => True, fun ins => [.bool (validI (i0 ins 0) (i0 ins 1) (i0 ins 2))]⟩
theorem as_iFracValid (ins : List Value) (ht : TypedL [.int .i64, .int .i64, .int .i64] ins) (_ : G_iFracValid.pre ins) : F_iFracValid.pre ins ∧ F_iFracValid.out ins = G_iFracValid.out ins := by
  obtain ⟨a, b, c, rfl, wa, wb, wc⟩ := ints3 ht
  have key : inR a = true → inR b = true → inRg c 1 2000000000 = true → mxI false a (IntKind.i64.wrap (0 - a)) = a.natAbs ∧ mxI false b (IntKind.i64.wrap (0 - b)) = b.natAbs ∧
      euc (a.natAbs : Nat) (b.natAbs : Nat) = (Nat.gcd a.natAbs b.natAbs : Nat) ∧ euc (Nat.gcd a.natAbs b.natAbs : Nat) c = (gcd3 a b c : Nat) := by
    intro ha hb hc
    simp only [inR, inRg, Bool.and_eq_true, decide_eq_true_eq] at ha hb hc
    exact ⟨size_abs (by omega), size_abs (by omega), euc_nat _ _, by rw [euc_eq (by omega) (by omega)]; rfl⟩
  have r1 : ∀ z, inRg z (-2000000000) 2000000000 = inR z := fun _ => rfl
  cases ha : inR a
  · simp only [F_iFracValid, G_iFracValid, tr_iFracValid, Fs_iFracValid, G_within, F_divisor, F_size, tr_size, Fs_size, validI, arI, r1, ha, ofTree, okT, okE, evalT, evalE, evsIn, ev, callF, preF, hasF, needs, i0, b0, toI_int, toB_bool, List.getD_cons_zero, List.getD_cons_succ, List.cons_append, List.nil_append, List.replicate, if_true, if_false, Bool.false_eq_true, and_true, true_and, implies_true, forall_const, false_implies, cmpI, Bool.not_true, Bool.not_false, Bool.true_and, Bool.false_and, Bool.and_true, Bool.and_false, reduceIte, List.append_nil, reduceCtorEq]
  · cases hb : inR b
    · simp only [F_iFracValid, G_iFracValid, tr_iFracValid, Fs_iFracValid, G_within, F_divisor, F_size, tr_size, Fs_size, validI, arI, r1, ha, hb, ofTree, okT, okE, evalT, evalE, evsIn, ev, callF, preF, hasF, needs, i0, b0, toI_int, toB_bool, List.getD_cons_zero, List.getD_cons_succ, List.cons_append, List.nil_append, List.replicate, if_true, if_false, Bool.false_eq_true, and_true, true_and, implies_true, forall_const, false_implies, cmpI, Bool.not_true, Bool.not_false, Bool.true_and, Bool.false_and, Bool.and_true, Bool.and_false, reduceIte, List.append_nil, reduceCtorEq]
    · cases hc : inRg c 1 2000000000
      · simp only [F_iFracValid, G_iFracValid, tr_iFracValid, Fs_iFracValid, G_within, F_divisor, F_size, tr_size, Fs_size, validI, arI, r1, ha, hb, hc, ofTree, okT, okE, evalT, evalE, evsIn, ev, callF, preF, hasF, needs, i0, b0, toI_int, toB_bool, List.getD_cons_zero, List.getD_cons_succ, List.cons_append, List.nil_append, List.replicate, if_true, if_false, Bool.false_eq_true, and_true, true_and, implies_true, forall_const, false_implies, cmpI, Bool.not_true, Bool.not_false, Bool.true_and, Bool.false_and, Bool.and_true, Bool.and_false, reduceIte, List.append_nil, reduceCtorEq]
      · obtain ⟨k1, k2, k3, k4⟩ := key ha hb hc
        simp only [F_iFracValid, G_iFracValid, tr_iFracValid, Fs_iFracValid, G_within, F_divisor, F_size, tr_size, Fs_size, validI, arI, r1, ha, hb, hc, k1, k2, k3, k4, ofTree, okT, okE, evalT, evalE, evsIn, ev, callF, preF, hasF, needs, i0, b0, toI_int, toB_bool, List.getD_cons_zero, List.getD_cons_succ, List.cons_append, List.nil_append, List.replicate, if_true, if_false, Bool.false_eq_true, and_true, true_and, implies_true, forall_const, false_implies, cmpI, Bool.not_true, Bool.not_false, Bool.true_and, Bool.false_and, Bool.and_true, Bool.and_false, reduceIte, List.append_nil, reduceCtorEq]
        by_cases h1 : gcd3 a b c = 1
        · simp [h1]
        · have h2 : ((gcd3 a b c : Nat) : Int) ≠ 1 := by omega
          rw [beq_eq_false_iff_ne.2 h2, beq_eq_false_iff_ne.2 h1]

def tr_realOk : Tr :=
  (.evs [.call 0 [(.var 0), (.var 1), (.var 2)] none 1]
  (.ret [(.ite (.var 3) (.cmp .eql (.var 1) (.int .i64 0)) (.bool false))]))
def Fs_realOk : List Fun1 := [G_iFracValid]
def F_realOk : Fun1 := ofTree Fs_realOk tr_realOk
def G_realOk : Fun1 := ⟨fun _ => True, fun ins => [.bool (realQ (q3 ins 0))]⟩
theorem as_realOk (ins : List Value) (ht : TypedL [.int .i64, .int .i64, .int .i64] ins) (_ : G_realOk.pre ins) : F_realOk.pre ins ∧ F_realOk.out ins = G_realOk.out ins := by
  obtain ⟨a, b, c, rfl, wa, wb, wc⟩ := ints3 ht
  simp only [F_realOk, G_realOk, tr_realOk, Fs_realOk, G_iFracValid, realQ, validQ, q3, ofTree, okT, okE, evalT, evalE, evsIn, ev, callF, preF, hasF, needs, i0, b0, toI_int, toB_bool, List.getD_cons_zero, List.getD_cons_succ, List.cons_append, List.nil_append, List.replicate, if_true, if_false, Bool.false_eq_true, and_true, true_and, implies_true, forall_const, false_implies, cmpI, Bool.not_true, Bool.not_false, Bool.true_and, Bool.false_and, Bool.and_true, Bool.and_false, reduceIte, List.append_nil, reduceCtorEq]
  cases h : validI a b c <;> simp [h]

def tr_iFracAdd : Tr :=
  (.evs [.call 0 [(.var 0), (.var 1), (.var 2)] none 1,
    .call 0 [(.var 3), (.var 4), (.var 5)] (some (.not (.not (.var 6)))) 1]
  (.ite (.ite (.not (.var 6)) (.bool true) (.not (.var 7)))
  (.ret [(.int .i64 0), (.int .i64 0), (.int .i64 0), (.bool false)])
  (.evs [.call 1 [(.ar .add .i64 (.ar .mul .i64 (.var 0) (.var 5)) (.ar .mul .i64 (.var 3) (.var 2))), (.ar .add .i64 (.ar .mul .i64 (.var 1) (.var 5)) (.ar .mul .i64 (.var 4) (.var 2))), (.ar .mul .i64 (.var 2) (.var 5))] none 4]
   (.ret [(.var 8), (.var 9), (.var 10), (.var 11)]))))
def Fs_iFracAdd : List Fun1 := [G_iFracValid, G_lowest]
def F_iFracAdd : Fun1 := ofTree Fs_iFracAdd tr_iFracAdd
def G_iFracAdd : Fun1 := ⟨fun _ => True, fun ins => fr4 (addQ (q3 ins 0) (q3 ins 3))⟩
theorem as_iFracAdd (ins : List Value) (ht : TypedL [.int .i64, .int .i64, .int .i64, .int .i64, .int .i64, .int .i64] ins) (_ : G_iFracAdd.pre ins) : F_iFracAdd.pre ins ∧ F_iFracAdd.out ins = G_iFracAdd.out ins := by
  obtain ⟨a, b, c, x, y, z, rfl, _⟩ := ints6 ht
  simp only [F_iFracAdd, G_iFracAdd, tr_iFracAdd, Fs_iFracAdd, G_iFracValid, G_lowest, addQ, validQ, q3, arI, ofTree, okT, okE, evalT, evalE, evsIn, ev, callF, preF, hasF, needs, i0, b0, toI_int, toB_bool, List.getD_cons_zero, List.getD_cons_succ, List.cons_append, List.nil_append, List.replicate, if_true, if_false, Bool.false_eq_true, and_true, true_and, implies_true, forall_const, false_implies, cmpI, Bool.not_true, Bool.not_false, Bool.true_and, Bool.false_and, Bool.and_true, Bool.and_false, reduceIte, List.append_nil, reduceCtorEq]
  cases h : validI a b c
  · simp [h, fr4, zq]
  · cases k : validI x y z
    · simp [h, k, fr4, zq]
    · obtain ⟨e1, e2, e3, e4, e5, e6, e7, e8, e9, l1, l2⟩ := sum_facts h k
      simp only [h, k, e1, e2, e3, e4, e5, e6, e7, ofTree, okT, okE, evalT, evalE, evsIn, ev, callF, preF, hasF, needs, i0, b0, toI_int, toB_bool, List.getD_cons_zero, List.getD_cons_succ, List.cons_append, List.nil_append, List.replicate, if_true, if_false, Bool.false_eq_true, and_true, true_and, implies_true, forall_const, false_implies, cmpI, Bool.not_true, Bool.not_false, Bool.true_and, Bool.false_and, Bool.and_true, Bool.and_false, reduceIte, List.append_nil, reduceCtorEq]
      simp [fr4, l1]

def tr_iFracTimes : Tr :=
  (.evs [.call 0 [(.var 0), (.var 1), (.var 2)] none 1,
    .call 0 [(.var 3), (.var 4), (.var 5)] (some (.not (.not (.var 6)))) 1]
  (.ite (.ite (.not (.var 6)) (.bool true) (.not (.var 7)))
  (.ret [(.int .i64 0), (.int .i64 0), (.int .i64 0), (.bool false)])
  (.evs [.call 1 [(.ar .sub .i64 (.ar .mul .i64 (.var 0) (.var 3)) (.ar .mul .i64 (.var 1) (.var 4))), (.ar .add .i64 (.ar .mul .i64 (.var 0) (.var 4)) (.ar .mul .i64 (.var 1) (.var 3))), (.ar .mul .i64 (.var 2) (.var 5))] none 4]
   (.ret [(.var 8), (.var 9), (.var 10), (.var 11)]))))
def Fs_iFracTimes : List Fun1 := [G_iFracValid, G_lowest]
def F_iFracTimes : Fun1 := ofTree Fs_iFracTimes tr_iFracTimes
def G_iFracTimes : Fun1 := ⟨fun _ => True, fun ins => fr4 (timesQ (q3 ins 0) (q3 ins 3))⟩
theorem as_iFracTimes (ins : List Value) (ht : TypedL [.int .i64, .int .i64, .int .i64, .int .i64, .int .i64, .int .i64] ins) (_ : G_iFracTimes.pre ins) : F_iFracTimes.pre ins ∧ F_iFracTimes.out ins = G_iFracTimes.out ins := by
  obtain ⟨a, b, c, x, y, z, rfl, _⟩ := ints6 ht
  simp only [F_iFracTimes, G_iFracTimes, tr_iFracTimes, Fs_iFracTimes, G_iFracValid, G_lowest, timesQ, validQ, q3, arI, ofTree, okT, okE, evalT, evalE, evsIn, ev, callF, preF, hasF, needs, i0, b0, toI_int, toB_bool, List.getD_cons_zero, List.getD_cons_succ, List.cons_append, List.nil_append, List.replicate, if_true, if_false, Bool.false_eq_true, and_true, true_and, implies_true, forall_const, false_implies, cmpI, Bool.not_true, Bool.not_false, Bool.true_and, Bool.false_and, Bool.and_true, Bool.and_false, reduceIte, List.append_nil, reduceCtorEq]
  cases h : validI a b c
  · simp [h, fr4, zq]
  · cases k : validI x y z
    · simp [h, k, fr4, zq]
    · obtain ⟨e1, e2, e3, e4, e5, e6, e7, l1⟩ := mul_facts h k
      simp only [h, k, e1, e2, e3, e4, e5, e6, e7, ofTree, okT, okE, evalT, evalE, evsIn, ev, callF, preF, hasF, needs, i0, b0, toI_int, toB_bool, List.getD_cons_zero, List.getD_cons_succ, List.cons_append, List.nil_append, List.replicate, if_true, if_false, Bool.false_eq_true, and_true, true_and, implies_true, forall_const, false_implies, cmpI, Bool.not_true, Bool.not_false, Bool.true_and, Bool.false_and, Bool.and_true, Bool.and_false, reduceIte, List.append_nil, reduceCtorEq]
      simp [fr4, l1]

def tr_l2Sum : Tr :=
  (.evs [.call 0 [(.var 0), (.var 1), (.var 2)] none 1,
    .call 0 [(.var 4), (.var 5), (.var 6)] (some (.not (.not (.var 7)))) 1]
  (.ite (.ite (.not (.var 7)) (.bool true) (.not (.var 8)))
  (.ret [(.int .i64 0), (.int .i64 0), (.int .i64 0), (.bool false)])
  (.evs [.call 1 [(.ar .add .i64 (.ar .mul .i64 (.var 0) (.var 6)) (.ar .mul .i64 (.ar .mul .i64 (.var 3) (.var 4)) (.var 2))), (.ar .add .i64 (.ar .mul .i64 (.var 1) (.var 6)) (.ar .mul .i64 (.ar .mul .i64 (.var 3) (.var 5)) (.var 2))), (.ar .mul .i64 (.var 2) (.var 6))] none 4]
   (.ret [(.var 9), (.var 10), (.var 11), (.var 12)]))))
def Fs_l2Sum : List Fun1 := [G_sFracValid, G_l2Low]
def F_l2Sum : Fun1 := ofTree Fs_l2Sum tr_l2Sum
def G_l2Sum : Fun1 := ⟨fun ins => i0 ins 3 = 1 ∨ i0 ins 3 = -1, fun ins => fr4 (if i0 ins 3 = 1 then addQ (q3 ins 0) (q3 ins 4) else lessQ (q3 ins 0) (q3 ins 4))⟩
theorem as_l2Sum (ins : List Value) (ht : TypedL [.int .i64, .int .i64, .int .i64, .int .i64, .int .i64, .int .i64, .int .i64] ins) (hp : G_l2Sum.pre ins) : F_l2Sum.pre ins ∧ F_l2Sum.out ins = G_l2Sum.out ins := by
  obtain ⟨a, r1, rfl, w1, ht1⟩ := int_cons ht
  obtain ⟨b, c, s, x, y, z, rfl, _⟩ := ints6 ht1
  have hs : s = 1 ∨ s = -1 := hp
  clear hp
  cases h : validI a b c
  · rcases hs with rfl | rfl <;>
    · simp only [F_l2Sum, G_l2Sum, tr_l2Sum, Fs_l2Sum, G_sFracValid, G_l2Low, addQ, lessQ, validQ, q3, arI, h, ofTree, okT, okE, evalT, evalE, evsIn, ev, callF, preF, hasF, needs, i0, b0, toI_int, toB_bool, List.getD_cons_zero, List.getD_cons_succ, List.cons_append, List.nil_append, List.replicate, if_true, if_false, Bool.false_eq_true, and_true, true_and, implies_true, forall_const, false_implies, cmpI, Bool.not_true, Bool.not_false, Bool.true_and, Bool.false_and, Bool.and_true, Bool.and_false, reduceIte, List.append_nil, reduceCtorEq]
      simp [fr4, zq]
  · cases k : validI x y z
    · rcases hs with rfl | rfl <;>
      · simp only [F_l2Sum, G_l2Sum, tr_l2Sum, Fs_l2Sum, G_sFracValid, G_l2Low, addQ, lessQ, validQ, q3, arI, h, k, ofTree, okT, okE, evalT, evalE, evsIn, ev, callF, preF, hasF, needs, i0, b0, toI_int, toB_bool, List.getD_cons_zero, List.getD_cons_succ, List.cons_append, List.nil_append, List.replicate, if_true, if_false, Bool.false_eq_true, and_true, true_and, implies_true, forall_const, false_implies, cmpI, Bool.not_true, Bool.not_false, Bool.true_and, Bool.false_and, Bool.and_true, Bool.and_false, reduceIte, List.append_nil, reduceCtorEq]
        simp [fr4, zq]
    · obtain ⟨e1, e2, e3, e4, e5, e6, e7, e8, e9, l1, l2⟩ := sum_facts h k
      obtain ⟨k1, k2, _⟩ := valid_bounds k
      rcases hs with rfl | rfl
      · have u1 : IntKind.i64.wrap (1 * x) = x := by rw [Int.one_mul]; exact wrap_in (by omega)
        have u2 : IntKind.i64.wrap (1 * y) = y := by rw [Int.one_mul]; exact wrap_in (by omega)
        simp only [F_l2Sum, G_l2Sum, tr_l2Sum, Fs_l2Sum, G_sFracValid, G_l2Low, addQ, lessQ, validQ, q3, arI, h, k, u1, u2, e1, e2, e3, e4, e5, e6, e7, ofTree, okT, okE, evalT, evalE, evsIn, ev, callF, preF, hasF, needs, i0, b0, toI_int, toB_bool, List.getD_cons_zero, List.getD_cons_succ, List.cons_append, List.nil_append, List.replicate, if_true, if_false, Bool.false_eq_true, and_true, true_and, implies_true, forall_const, false_implies, cmpI, Bool.not_true, Bool.not_false, Bool.true_and, Bool.false_and, Bool.and_true, Bool.and_false, reduceIte, List.append_nil, reduceCtorEq]
        simp [fr4, l1]
      · have u1 : IntKind.i64.wrap (-1 * x) = -x := by rw [Int.neg_one_mul]; exact wrap_in (by omega)
        have u2 : IntKind.i64.wrap (-1 * y) = -y := by rw [Int.neg_one_mul]; exact wrap_in (by omega)
        have m2 := mulB k1 (b := c) (by have := valid_bounds h; omega)
        have m4 := mulB k2 (b := c) (by have := valid_bounds h; omega)
        have v1 : IntKind.i64.wrap (-x * c) = -(x * c) := by rw [Int.neg_mul]; exact wrap_in (by omega)
        have v2 : IntKind.i64.wrap (-y * c) = -(y * c) := by rw [Int.neg_mul]; exact wrap_in (by omega)
        have v3 : IntKind.i64.wrap (a * z + -(x * c)) = a * z - x * c := by rw [← Int.sub_eq_add_neg]; exact e8
        have v4 : IntKind.i64.wrap (b * z + -(y * c)) = b * z - y * c := by rw [← Int.sub_eq_add_neg]; exact e9
        simp only [F_l2Sum, G_l2Sum, tr_l2Sum, Fs_l2Sum, G_sFracValid, G_l2Low, addQ, lessQ, validQ, q3, arI, h, k, u1, u2, v1, v2, v3, v4, e1, e3, e5, ofTree, okT, okE, evalT, evalE, evsIn, ev, callF, preF, hasF, needs, i0, b0, toI_int, toB_bool, List.getD_cons_zero, List.getD_cons_succ, List.cons_append, List.nil_append, List.replicate, if_true, if_false, Bool.false_eq_true, and_true, true_and, implies_true, forall_const, false_implies, cmpI, Bool.not_true, Bool.not_false, Bool.true_and, Bool.false_and, Bool.and_true, Bool.and_false, reduceIte, List.append_nil, reduceCtorEq]
        simp [fr4, l2]

def tr_sFracAdd : Tr :=
  (.evs [.call 0 [(.var 0), (.var 1), (.var 2), (.int .i64 1), (.var 3), (.var 4), (.var 5)] none 4]
  (.ret [(.var 6), (.var 7), (.var 8), (.var 9)]))
def Fs_sFracAdd : List Fun1 := [G_l2Sum]
def F_sFracAdd : Fun1 := ofTree Fs_sFracAdd tr_sFracAdd
def G_sFracAdd : Fun1 := ⟨fun _ => True, fun ins => fr4 (addQ (q3 ins 0) (q3 ins 3))⟩
theorem as_sFracAdd (ins : List Value) (ht : TypedL [.int .i64, .int .i64, .int .i64, .int .i64, .int .i64, .int .i64] ins) (_ : G_sFracAdd.pre ins) : F_sFracAdd.pre ins ∧ F_sFracAdd.out ins = G_sFracAdd.out ins := by
  obtain ⟨a, b, c, x, y, z, rfl, _⟩ := ints6 ht
  exact ⟨⟨⟨.inl rfl, trivial⟩, trivial⟩, rfl⟩
def A_sFracAdd : AF := aAny 4
theorem aok_sFracAdd {cb : CodeB} : AOK cb G_sFracAdd A_sFracAdd := aAny_ok (fun _ => trivial) (fun ins => by rfl)

def tr_sFracTimes : Tr :=
  (.evs [.call 0 [(.var 0), (.var 1), (.var 2)] none 1,
    .call 0 [(.var 3), (.var 4), (.var 5)] (some (.not (.not (.var 6)))) 1]
  (.ite (.ite (.not (.var 6)) (.bool true) (.not (.var 7)))
  (.ret [(.int .i64 0), (.int .i64 0), (.int .i64 0), (.bool false)])
  (.evs [.call 1 [(.ar .sub .i64 (.ar .mul .i64 (.var 0) (.var 3)) (.ar .mul .i64 (.var 1) (.var 4))), (.ar .add .i64 (.ar .mul .i64 (.var 0) (.var 4)) (.ar .mul .i64 (.var 1) (.var 3))), (.ar .mul .i64 (.var 2) (.var 5))] none 4]
   (.ret [(.var 8), (.var 9), (.var 10), (.var 11)]))))
def Fs_sFracTimes : List Fun1 := [G_sFracValid, G_l2Low]
def F_sFracTimes : Fun1 := ofTree Fs_sFracTimes tr_sFracTimes
def G_sFracTimes : Fun1 := ⟨fun _ => True, fun ins => fr4 (timesQ (q3 ins 0) (q3 ins 3))⟩
theorem as_sFracTimes (ins : List Value) (ht : TypedL [.int .i64, .int .i64, .int .i64, .int .i64, .int .i64, .int .i64] ins) (_ : G_sFracTimes.pre ins) : F_sFracTimes.pre ins ∧ F_sFracTimes.out ins = G_sFracTimes.out ins := by
  obtain ⟨a, b, c, x, y, z, rfl, _⟩ := ints6 ht
  simp only [F_sFracTimes, G_sFracTimes, tr_sFracTimes, Fs_sFracTimes, G_sFracValid, G_l2Low, timesQ, validQ, q3, arI, ofTree, okT, okE, evalT, evalE, evsIn, ev, callF, preF, hasF, needs, i0, b0, toI_int, toB_bool, List.getD_cons_zero, List.getD_cons_succ, List.cons_append, List.nil_append, List.replicate, if_true, if_false, Bool.false_eq_true, and_true, true_and, implies_true, forall_const, false_implies, cmpI, Bool.not_true, Bool.not_false, Bool.true_and, Bool.false_and, Bool.and_true, Bool.and_false, reduceIte, List.append_nil, reduceCtorEq]
  cases h : validI a b c
  · simp [h, fr4, zq]
  · cases k : validI x y z
    · simp [h, k, fr4, zq]
    · obtain ⟨e1, e2, e3, e4, e5, e6, e7, l1⟩ := mul_facts h k
      simp only [h, k, e1, e2, e3, e4, e5, e6, e7, ofTree, okT, okE, evalT, evalE, evsIn, ev, callF, preF, hasF, needs, i0, b0, toI_int, toB_bool, List.getD_cons_zero, List.getD_cons_succ, List.cons_append, List.nil_append, List.replicate, if_true, if_false, Bool.false_eq_true, and_true, true_and, implies_true, forall_const, false_implies, cmpI, Bool.not_true, Bool.not_false, Bool.true_and, Bool.false_and, Bool.and_true, Bool.and_false, reduceIte, List.append_nil, reduceCtorEq]
      simp [fr4, l1]
def A_sFracTimes : AF := aAny 4
theorem aok_sFracTimes {cb : CodeB} : AOK cb G_sFracTimes A_sFracTimes := aAny_ok (fun _ => trivial) (fun ins => by rfl)

def tr_keep : Tr :=
  (.ite (.not (.var 3))
  (.ret [(.int .i64 0), (.int .i64 0), (.int .i64 0), (.bool true)])
  (.ret [(.var 0), (.var 1), (.var 2), (.var 4)]))
def Fs_keep : List Fun1 := []
def F_keep : Fun1 := ofTree Fs_keep tr_keep

def tr_add : Tr :=
  (.evs [.call 0 [(.var 0), (.var 1), (.var 2), (.var 3), (.var 4), (.var 5)] none 4,
    .call 1 [(.var 7), (.var 8), (.var 9), (.var 10), (.var 6)] none 4]
  (.ret [(.var 11), (.var 12), (.var 13), (.var 14)]))
def Fs_add : List Fun1 := [G_iFracAdd, F_keep]
def F_add : Fun1 := ofTree Fs_add tr_add
def G_add : Fun1 := ⟨fun _ => True, fun ins => fr3 (addQ (q3 ins 0) (q3 ins 3)) ++ [.bool (b0 ins 6 || !(addQ (q3 ins 0) (q3 ins 3)).isSome)]⟩
theorem as_add (ins : List Value) (ht : TypedL [.int .i64, .int .i64, .int .i64, .int .i64, .int .i64, .int .i64, .bool] ins) (_ : G_add.pre ins) : F_add.pre ins ∧ F_add.out ins = G_add.out ins := by
  obtain ⟨a, r1, rfl, _, ht1⟩ := int_cons ht
  obtain ⟨b, r2, rfl, _, ht2⟩ := int_cons ht1
  obtain ⟨c, r3, rfl, _, ht3⟩ := int_cons ht2
  obtain ⟨x, r4, rfl, _, ht4⟩ := int_cons ht3
  obtain ⟨y, r5, rfl, _, ht5⟩ := int_cons ht4
  obtain ⟨z, r6, rfl, _, ht6⟩ := int_cons ht5
  obtain ⟨t, r7, rfl, ht7⟩ := bool_cons ht6
  obtain rfl := ints0 ht7
  simp only [F_add, G_add, tr_add, Fs_add, G_iFracAdd, F_keep, tr_keep, Fs_keep, q3, fr4, fr3, ofTree, okT, okE, evalT, evalE, evsIn, ev, callF, preF, hasF, needs, i0, b0, toI_int, toB_bool, List.getD_cons_zero, List.getD_cons_succ, List.cons_append, List.nil_append, List.replicate, if_true, if_false, Bool.false_eq_true, and_true, true_and, implies_true, forall_const, false_implies, cmpI, Bool.not_true, Bool.not_false, Bool.true_and, Bool.false_and, Bool.and_true, Bool.and_false, reduceIte, List.append_nil, reduceCtorEq]
  cases h : addQ (a, b, c) (x, y, z) <;> simp [zq]

def tr_times : Tr :=
  (.evs [.call 0 [(.var 0), (.var 1), (.var 2), (.var 3), (.var 4), (.var 5)] none 4,
    .call 1 [(.var 7), (.var 8), (.var 9), (.var 10), (.var 6)] none 4]
  (.ret [(.var 11), (.var 12), (.var 13), (.var 14)]))
def Fs_times : List Fun1 := [G_iFracTimes, F_keep]
def F_times : Fun1 := ofTree Fs_times tr_times
def G_times : Fun1 := ⟨fun _ => True, fun ins => fr3 (timesQ (q3 ins 0) (q3 ins 3)) ++ [.bool (b0 ins 6 || !(timesQ (q3 ins 0) (q3 ins 3)).isSome)]⟩
theorem as_times (ins : List Value) (ht : TypedL [.int .i64, .int .i64, .int .i64, .int .i64, .int .i64, .int .i64, .bool] ins) (_ : G_times.pre ins) : F_times.pre ins ∧ F_times.out ins = G_times.out ins := by
  obtain ⟨a, r1, rfl, _, ht1⟩ := int_cons ht
  obtain ⟨b, r2, rfl, _, ht2⟩ := int_cons ht1
  obtain ⟨c, r3, rfl, _, ht3⟩ := int_cons ht2
  obtain ⟨x, r4, rfl, _, ht4⟩ := int_cons ht3
  obtain ⟨y, r5, rfl, _, ht5⟩ := int_cons ht4
  obtain ⟨z, r6, rfl, _, ht6⟩ := int_cons ht5
  obtain ⟨t, r7, rfl, ht7⟩ := bool_cons ht6
  obtain rfl := ints0 ht7
  simp only [F_times, G_times, tr_times, Fs_times, G_iFracTimes, F_keep, tr_keep, Fs_keep, q3, fr4, fr3, ofTree, okT, okE, evalT, evalE, evsIn, ev, callF, preF, hasF, needs, i0, b0, toI_int, toB_bool, List.getD_cons_zero, List.getD_cons_succ, List.cons_append, List.nil_append, List.replicate, if_true, if_false, Bool.false_eq_true, and_true, true_and, implies_true, forall_const, false_implies, cmpI, Bool.not_true, Bool.not_false, Bool.true_and, Bool.false_and, Bool.and_true, Bool.and_false, reduceIte, List.append_nil, reduceCtorEq]
  cases h : timesQ (a, b, c) (x, y, z) <;> simp [zq]

def tr_need : Tr :=
  (.ite (.not (.var 0))
  (.ret [(.bool true)])
  (.ret [(.var 1)]))
def Fs_need : List Fun1 := []
def F_need : Fun1 := ofTree Fs_need tr_need
def G_need : Fun1 := ⟨fun _ => True, fun ins => [.bool (b0 ins 1 || !b0 ins 0)]⟩
theorem as_need (ins : List Value) (ht : TypedL [.bool, .bool] ins) (_ : G_need.pre ins) : F_need.pre ins ∧ F_need.out ins = G_need.out ins := by
  obtain ⟨s, r1, rfl, ht1⟩ := bool_cons ht
  obtain ⟨t, r2, rfl, ht2⟩ := bool_cons ht1
  obtain rfl := ints0 ht2
  simp only [F_need, G_need, tr_need, Fs_need, ofTree, okT, okE, evalT, evalE, evsIn, ev, callF, preF, hasF, needs, i0, b0, toI_int, toB_bool, List.getD_cons_zero, List.getD_cons_succ, List.cons_append, List.nil_append, List.replicate, if_true, if_false, Bool.false_eq_true, and_true, true_and, implies_true, forall_const, false_implies, cmpI, Bool.not_true, Bool.not_false, Bool.true_and, Bool.false_and, Bool.and_true, Bool.and_false, reduceIte, List.append_nil, reduceCtorEq]
  cases s <;> cases t <;> simp

def tr_l6tAdd : Tr :=
  (.evs [.call 0 [(.var 0), (.var 1), (.var 2), (.var 3), (.var 4), (.var 5), (.var 6)] none 4]
  (.ret [(.var 8), (.var 9), (.var 10), (.ite (.var 7) (.var 11) (.bool false))]))
def Fs_l6tAdd : List Fun1 := [G_l2Sum]
def F_l6tAdd : Fun1 := ofTree Fs_l6tAdd tr_l6tAdd
def signQ (s : Int) (a b : Q) : Option Q := if s = 1 then addQ a b else lessQ a b
def G_l6tAdd : Fun1 := ⟨fun ins => i0 ins 3 = 1 ∨ i0 ins 3 = -1, fun ins => fr3 (signQ (i0 ins 3) (q3 ins 0) (q3 ins 4)) ++ [.bool (b0 ins 7 && (signQ (i0 ins 3) (q3 ins 0) (q3 ins 4)).isSome)]⟩
theorem as_l6tAdd (ins : List Value) (ht : TypedL [.int .i64, .int .i64, .int .i64, .int .i64, .int .i64, .int .i64, .int .i64, .bool] ins) (hp : G_l6tAdd.pre ins) : F_l6tAdd.pre ins ∧ F_l6tAdd.out ins = G_l6tAdd.out ins := by
  obtain ⟨a, r1, rfl, _, ht1⟩ := int_cons ht
  obtain ⟨b, r2, rfl, _, ht2⟩ := int_cons ht1
  obtain ⟨c, r3, rfl, _, ht3⟩ := int_cons ht2
  obtain ⟨s, r4, rfl, _, ht4⟩ := int_cons ht3
  obtain ⟨x, r5, rfl, _, ht5⟩ := int_cons ht4
  obtain ⟨y, r6, rfl, _, ht6⟩ := int_cons ht5
  obtain ⟨z, r7, rfl, _, ht7⟩ := int_cons ht6
  obtain ⟨t, r8, rfl, ht8⟩ := bool_cons ht7
  obtain rfl := ints0 ht8
  have hp : s = 1 ∨ s = -1 := hp
  refine ⟨⟨⟨hp, trivial⟩, trivial⟩, ?_⟩
  simp only [F_l6tAdd, G_l6tAdd, tr_l6tAdd, Fs_l6tAdd, G_l2Sum, signQ, q3, fr4, fr3, ofTree, okT, okE, evalT, evalE, evsIn, ev, callF, preF, hasF, needs, i0, b0, toI_int, toB_bool, List.getD_cons_zero, List.getD_cons_succ, List.cons_append, List.nil_append, List.replicate, if_true, if_false, Bool.false_eq_true, and_true, true_and, implies_true, forall_const, false_implies, cmpI, Bool.not_true, Bool.not_false, Bool.true_and, Bool.false_and, Bool.and_true, Bool.and_false, reduceIte, List.append_nil, reduceCtorEq]
  cases t <;> simp

def tr_iTableValid : Tr :=
  (.evs [.call 0 [(.var 0), (.var 1), (.var 2)] none 1]
  (.ite (.not (.var 48))
  (.ret [(.bool false)])
  (.evs [.call 0 [(.var 3), (.var 4), (.var 5)] none 1]
   (.ite (.not (.var 49))
   (.ret [(.bool false)])
   (.evs [.call 0 [(.var 6), (.var 7), (.var 8)] none 1]
    (.ite (.not (.var 50))
    (.ret [(.bool false)])
    (.evs [.call 0 [(.var 9), (.var 10), (.var 11)] none 1]
     (.ite (.not (.var 51))
     (.ret [(.bool false)])
     (.evs [.call 0 [(.var 12), (.var 13), (.var 14)] none 1]
      (.ite (.not (.var 52))
      (.ret [(.bool false)])
      (.evs [.call 0 [(.var 15), (.var 16), (.var 17)] none 1]
       (.ite (.not (.var 53))
       (.ret [(.bool false)])
       (.evs [.call 0 [(.var 18), (.var 19), (.var 20)] none 1]
        (.ite (.not (.var 54))
        (.ret [(.bool false)])
        (.evs [.call 0 [(.var 21), (.var 22), (.var 23)] none 1]
         (.ite (.not (.var 55))
         (.ret [(.bool false)])
         (.evs [.call 0 [(.var 24), (.var 25), (.var 26)] none 1]
          (.ite (.not (.var 56))
          (.ret [(.bool false)])
          (.evs [.call 0 [(.var 27), (.var 28), (.var 29)] none 1]
           (.ite (.not (.var 57))
           (.ret [(.bool false)])
           (.evs [.call 0 [(.var 30), (.var 31), (.var 32)] none 1]
            (.ite (.not (.var 58))
            (.ret [(.bool false)])
            (.evs [.call 0 [(.var 33), (.var 34), (.var 35)] none 1]
             (.ite (.not (.var 59))
             (.ret [(.bool false)])
             (.evs [.call 0 [(.var 36), (.var 37), (.var 38)] none 1]
              (.ite (.not (.var 60))
              (.ret [(.bool false)])
              (.evs [.call 0 [(.var 39), (.var 40), (.var 41)] none 1]
               (.ite (.not (.var 61))
               (.ret [(.bool false)])
               (.evs [.call 0 [(.var 42), (.var 43), (.var 44)] none 1]
                (.ite (.not (.var 62))
                (.ret [(.bool false)])
                (.evs [.call 0 [(.var 45), (.var 46), (.var 47)] none 1]
                 (.ite (.not (.var 63))
                 (.ret [(.bool false)])
                 (.ret [(.bool true)])))))))))))))))))))))))))))))))))
def Fs_iTableValid : List Fun1 := [G_realOk]
def F_iTableValid : Fun1 := ofTree Fs_iTableValid tr_iTableValid
def G_iTableValid : Fun1 := ⟨fun _ => True, fun ins => [.bool (tabQ fun k => q3 ins (3 * k))]⟩
theorem out_iTableValid : (fun (g : Nat → Int) => F_iTableValid.out (ivs g 0 48)) = fun g => nestC (fun k => .bool (!realQ (q3 (ivs g 0 48) (3 * k)))) 0 16 := by kernel_rfl
theorem as_iTableValid (ins : List Value) (ht : TypedL (intTs 48 ++ []) ins) (_ : G_iTableValid.pre ins) : F_iTableValid.pre ins ∧ F_iTableValid.out ins = G_iTableValid.out ins := by
  obtain ⟨g, r, rfl, h1, _⟩ := ints_lit 48 0 ht
  obtain rfl := ints0 h1
  rw [List.append_nil]
  refine ⟨okT_free (by intro F hF ins; simp only [Fs_iTableValid, List.mem_singleton] at hF; rw [hF]; trivial) _ _ (by kernel_rfl), (congrFun out_iTableValid g).trans ?_⟩
  exact nestC_eq (fun k => rfl) 16 0

def tr_sTableValid : Tr :=
  (.evs [.call 0 [(.var 0), (.var 1), (.var 2)] none 1]
  (.ite (.ite (.not (.var 48)) (.bool true) (.cmp .neq (.var 1) (.int .i64 0)))
  (.ret [(.bool false)])
  (.evs [.call 0 [(.var 3), (.var 4), (.var 5)] none 1]
   (.ite (.ite (.not (.var 49)) (.bool true) (.cmp .neq (.var 4) (.int .i64 0)))
   (.ret [(.bool false)])
   (.evs [.call 0 [(.var 6), (.var 7), (.var 8)] none 1]
    (.ite (.ite (.not (.var 50)) (.bool true) (.cmp .neq (.var 7) (.int .i64 0)))
    (.ret [(.bool false)])
    (.evs [.call 0 [(.var 9), (.var 10), (.var 11)] none 1]
     (.ite (.ite (.not (.var 51)) (.bool true) (.cmp .neq (.var 10) (.int .i64 0)))
     (.ret [(.bool false)])
     (.evs [.call 0 [(.var 12), (.var 13), (.var 14)] none 1]
      (.ite (.ite (.not (.var 52)) (.bool true) (.cmp .neq (.var 13) (.int .i64 0)))
      (.ret [(.bool false)])
      (.evs [.call 0 [(.var 15), (.var 16), (.var 17)] none 1]
       (.ite (.ite (.not (.var 53)) (.bool true) (.cmp .neq (.var 16) (.int .i64 0)))
       (.ret [(.bool false)])
       (.evs [.call 0 [(.var 18), (.var 19), (.var 20)] none 1]
        (.ite (.ite (.not (.var 54)) (.bool true) (.cmp .neq (.var 19) (.int .i64 0)))
        (.ret [(.bool false)])
        (.evs [.call 0 [(.var 21), (.var 22), (.var 23)] none 1]
         (.ite (.ite (.not (.var 55)) (.bool true) (.cmp .neq (.var 22) (.int .i64 0)))
         (.ret [(.bool false)])
         (.evs [.call 0 [(.var 24), (.var 25), (.var 26)] none 1]
          (.ite (.ite (.not (.var 56)) (.bool true) (.cmp .neq (.var 25) (.int .i64 0)))
          (.ret [(.bool false)])
          (.evs [.call 0 [(.var 27), (.var 28), (.var 29)] none 1]
           (.ite (.ite (.not (.var 57)) (.bool true) (.cmp .neq (.var 28) (.int .i64 0)))
           (.ret [(.bool false)])
           (.evs [.call 0 [(.var 30), (.var 31), (.var 32)] none 1]
            (.ite (.ite (.not (.var 58)) (.bool true) (.cmp .neq (.var 31) (.int .i64 0)))
            (.ret [(.bool false)])
            (.evs [.call 0 [(.var 33), (.var 34), (.var 35)] none 1]
             (.ite (.ite (.not (.var 59)) (.bool true) (.cmp .neq (.var 34) (.int .i64 0)))
             (.ret [(.bool false)])
             (.evs [.call 0 [(.var 36), (.var 37), (.var 38)] none 1]
              (.ite (.ite (.not (.var 60)) (.bool true) (.cmp .neq (.var 37) (.int .i64 0)))
              (.ret [(.bool false)])
              (.evs [.call 0 [(.var 39), (.var 40), (.var 41)] none 1]
               (.ite (.ite (.not (.var 61)) (.bool true) (.cmp .neq (.var 40) (.int .i64 0)))
               (.ret [(.bool false)])
               (.evs [.call 0 [(.var 42), (.var 43), (.var 44)] none 1]
                (.ite (.ite (.not (.var 62)) (.bool true) (.cmp .neq (.var 43) (.int .i64 0)))
                (.ret [(.bool false)])
                (.evs [.call 0 [(.var 45), (.var 46), (.var 47)] none 1]
                 (.ite (.ite (.not (.var 63)) (.bool true) (.cmp .neq (.var 46) (.int .i64 0)))
                 (.ret [(.bool false)])
                 (.ret [(.bool true)])))))))))))))))))))))))))))))))))
def Fs_sTableValid : List Fun1 := [G_sFracValid]
def F_sTableValid : Fun1 := ofTree Fs_sTableValid tr_sTableValid
def G_sTableValid : Fun1 := ⟨fun _ => True, fun ins => [.bool (allB (fun k => realQ (q3 ins (3 * k))) 0 16)]⟩
theorem out_sTableValid : (fun (g : Nat → Int) => F_sTableValid.out (ivs g 0 48)) = fun g => nestC (fun k => if toB (.bool (!validQ (q3 (ivs g 0 48) (3 * k)))) = true then .bool true else .bool (i0 (ivs g 0 48) (3 * k + 1) != 0)) 0 16 := by kernel_rfl
theorem as_sTableValid (ins : List Value) (ht : TypedL (intTs 48 ++ []) ins) (_ : G_sTableValid.pre ins) : F_sTableValid.pre ins ∧ F_sTableValid.out ins = G_sTableValid.out ins := by
  obtain ⟨g, r, rfl, h1, _⟩ := ints_lit 48 0 ht
  obtain rfl := ints0 h1
  rw [List.append_nil]
  refine ⟨okT_free (by intro F hF ins; simp only [Fs_sTableValid, List.mem_singleton] at hF; rw [hF]; trivial) _ _ (by kernel_rfl), (congrFun out_sTableValid g).trans ?_⟩
  refine nestC_eq (fun k => ?_) 16 0
  simp only [toB_bool, realQ, q3]
  by_cases h : validQ (i0 (ivs g 0 48) (3 * k), i0 (ivs g 0 48) (3 * k + 1), i0 (ivs g 0 48) (3 * k + 2)) = true <;> simp [bne, h]

def tr_gotTable : Tr :=
  (.ite (.var 48)
  (.ret [(.int .i64 0), (.int .i64 0), (.int .i64 0), (.int .i64 0), (.int .i64 0), (.int .i64 0), (.int .i64 0), (.int .i64 0), (.int .i64 0), (.int .i64 0), (.int .i64 0), (.int .i64 0), (.int .i64 0), (.int .i64 0), (.int .i64 0), (.int .i64 0), (.int .i64 0), (.int .i64 0), (.int .i64 0), (.int .i64 0), (.int .i64 0), (.int .i64 0), (.int .i64 0), (.int .i64 0), (.int .i64 0), (.int .i64 0), (.int .i64 0), (.int .i64 0), (.int .i64 0), (.int .i64 0), (.int .i64 0), (.int .i64 0), (.int .i64 0), (.int .i64 0), (.int .i64 0), (.int .i64 0), (.int .i64 0), (.int .i64 0), (.int .i64 0), (.int .i64 0), (.int .i64 0), (.int .i64 0), (.int .i64 0), (.int .i64 0), (.int .i64 0), (.int .i64 0), (.int .i64 0), (.int .i64 0), (.bool false), (.var 48)])
  (.ret [(.var 0), (.var 1), (.var 2), (.var 3), (.var 4), (.var 5), (.var 6), (.var 7), (.var 8), (.var 9), (.var 10), (.var 11), (.var 12), (.var 13), (.var 14), (.var 15), (.var 16), (.var 17), (.var 18), (.var 19), (.var 20), (.var 21), (.var 22), (.var 23), (.var 24), (.var 25), (.var 26), (.var 27), (.var 28), (.var 29), (.var 30), (.var 31), (.var 32), (.var 33), (.var 34), (.var 35), (.var 36), (.var 37), (.var 38), (.var 39), (.var 40), (.var 41), (.var 42), (.var 43), (.var 44), (.var 45), (.var 46), (.var 47), (.bool true), (.var 48)]))
def Fs_gotTable : List Fun1 := []
def F_gotTable : Fun1 := ofTree Fs_gotTable tr_gotTable
def G_gotTable : Fun1 := ⟨fun _ => True, fun ins => gotV (b0 ins 48) ins 0 48 ++ [.bool (!b0 ins 48), .bool (b0 ins 48)]⟩
theorem out_gotTable : (fun (g : Nat → Int) => F_gotTable.out (ivs g 0 48 ++ [.bool true])) = fun g => G_gotTable.out (ivs g 0 48 ++ [.bool true]) := by kernel_rfl
theorem out_gotTable' : (fun (g : Nat → Int) => F_gotTable.out (ivs g 0 48 ++ [.bool false])) = fun g => G_gotTable.out (ivs g 0 48 ++ [.bool false]) := by kernel_rfl
theorem as_gotTable (ins : List Value) (ht : TypedL (intTs 48 ++ [.bool]) ins) (_ : G_gotTable.pre ins) : F_gotTable.pre ins ∧ F_gotTable.out ins = G_gotTable.out ins := by
  obtain ⟨g, r, rfl, h1, _⟩ := ints_lit 48 0 ht
  obtain ⟨b, r2, rfl, h2⟩ := bool_cons h1
  obtain rfl := ints0 h2
  cases b
  · exact ⟨trivial, congrFun out_gotTable' g⟩
  · exact ⟨trivial, congrFun out_gotTable g⟩

def tr_l6tOf0 : Tr :=
  (.ret [(.var 0), (.var 1), (.var 2), (.var 3), (.var 4), (.var 5), (.var 6), (.var 7), (.var 8), (.var 9), (.var 10), (.var 11)])
def Fs_l6tOf0 : List Fun1 := []
def F_l6tOf0 : Fun1 := ofTree Fs_l6tOf0 tr_l6tOf0

def tr_l6tOf1 : Tr :=
  (.ret [(.var 12), (.var 13), (.var 14), (.var 15), (.var 16), (.var 17), (.var 18), (.var 19), (.var 20), (.var 21), (.var 22), (.var 23)])
def Fs_l6tOf1 : List Fun1 := []
def F_l6tOf1 : Fun1 := ofTree Fs_l6tOf1 tr_l6tOf1

def tr_l6tOf2 : Tr :=
  (.ret [(.var 24), (.var 25), (.var 26), (.var 27), (.var 28), (.var 29), (.var 30), (.var 31), (.var 32), (.var 33), (.var 34), (.var 35)])
def Fs_l6tOf2 : List Fun1 := []
def F_l6tOf2 : Fun1 := ofTree Fs_l6tOf2 tr_l6tOf2

def tr_l6tOf3 : Tr :=
  (.ret [(.var 36), (.var 37), (.var 38), (.var 39), (.var 40), (.var 41), (.var 42), (.var 43), (.var 44), (.var 45), (.var 46), (.var 47)])
def Fs_l6tOf3 : List Fun1 := []
def F_l6tOf3 : Fun1 := ofTree Fs_l6tOf3 tr_l6tOf3

def tr_l6tRow : Tr :=
  (.evs [.call 0 [(.var 0), (.var 1), (.var 2), (.var 12), (.var 13), (.var 14)] none 4]
  (.evs [.call 1 [(.int .i64 0), (.int .i64 0), (.int .i64 1), (.int .i64 1), (.var 25), (.var 26), (.var 27), (.ite (.var 24) (.var 28) (.bool false))] none 4]
  (.evs [.call 0 [(.var 3), (.var 4), (.var 5), (.var 15), (.var 16), (.var 17)] none 4]
  (.evs [.call 1 [(.var 29), (.var 30), (.var 31), (.int .i64 1), (.var 33), (.var 34), (.var 35), (.ite (.var 32) (.var 36) (.bool false))] none 4]
  (.evs [.call 0 [(.var 6), (.var 7), (.var 8), (.var 18), (.var 19), (.var 20)] none 4]
  (.evs [.call 1 [(.var 37), (.var 38), (.var 39), (.int .i64 1), (.var 41), (.var 42), (.var 43), (.ite (.var 40) (.var 44) (.bool false))] none 4]
  (.evs [.call 0 [(.var 9), (.var 10), (.var 11), (.var 21), (.var 22), (.var 23)] none 4]
  (.evs [.call 1 [(.var 45), (.var 46), (.var 47), (.int .i64 1), (.var 49), (.var 50), (.var 51), (.ite (.var 48) (.var 52) (.bool false))] none 4]
  (.ret [(.var 53), (.var 54), (.var 55), (.var 56)])))))))))
def Fs_l6tRow : List Fun1 := [G_sFracTimes, G_l6tAdd]
def F_l6tRow : Fun1 := ofTree Fs_l6tRow tr_l6tRow
def G_l6tRow : Fun1 := ⟨fun _ => True, fun ins => fl3 [(cellS' (fun k => q3 ins (3 * k)) (fun k => q3 ins (12 + 3 * k)) (b0 ins 24)).1] ++ [.bool (cellS' (fun k => q3 ins (3 * k)) (fun k => q3 ins (12 + 3 * k)) (b0 ins 24)).2]⟩
theorem out_l6tRow : (fun (g : Nat → Int) (s : Bool) => F_l6tRow.out (ivs g 0 24 ++ [.bool s])) = fun g s => G_l6tRow.out (ivs g 0 24 ++ [.bool s]) := by kernel_rfl
theorem as_l6tRow (ins : List Value) (ht : TypedL (intTs 24 ++ [.bool]) ins) (_ : G_l6tRow.pre ins) : F_l6tRow.pre ins ∧ F_l6tRow.out ins = G_l6tRow.out ins := by
  obtain ⟨g, r, rfl, h1, _⟩ := ints_lit 24 0 ht
  obtain ⟨s, r2, rfl, h2⟩ := bool_cons h1
  obtain rfl := ints0 h2
  refine ⟨?_, congrFun (congrFun out_l6tRow g) s⟩
  exact ⟨⟨trivial, trivial⟩, ⟨.inl rfl, trivial⟩, ⟨trivial, trivial⟩, ⟨.inl rfl, trivial⟩, ⟨trivial, trivial⟩, ⟨.inl rfl, trivial⟩, ⟨trivial, trivial⟩, ⟨.inl rfl, trivial⟩, trivial⟩

def tr_gotStokes : Tr :=
  (.ite (.var 12)
  (.ret [(.int .i64 0), (.int .i64 0), (.int .i64 0), (.int .i64 0), (.int .i64 0), (.int .i64 0), (.int .i64 0), (.int .i64 0), (.int .i64 0), (.int .i64 0), (.int .i64 0), (.int .i64 0), (.bool false), (.var 12)])
  (.ret [(.var 0), (.var 1), (.var 2), (.var 3), (.var 4), (.var 5), (.var 6), (.var 7), (.var 8), (.var 9), (.var 10), (.var 11), (.bool true), (.var 12)]))
def Fs_gotStokes : List Fun1 := []
def F_gotStokes : Fun1 := ofTree Fs_gotStokes tr_gotStokes
def G_gotStokes : Fun1 := ⟨fun _ => True, fun ins => gotV (b0 ins 12) ins 0 12 ++ [.bool (!b0 ins 12), .bool (b0 ins 12)]⟩
theorem out_gotStokes : (fun (g : Nat → Int) => F_gotStokes.out (ivs g 0 12 ++ [.bool true])) = fun g => G_gotStokes.out (ivs g 0 12 ++ [.bool true]) := by kernel_rfl
theorem out_gotStokes' : (fun (g : Nat → Int) => F_gotStokes.out (ivs g 0 12 ++ [.bool false])) = fun g => G_gotStokes.out (ivs g 0 12 ++ [.bool false]) := by kernel_rfl
theorem as_gotStokes (ins : List Value) (ht : TypedL (intTs 12 ++ [.bool]) ins) (_ : G_gotStokes.pre ins) : F_gotStokes.pre ins ∧ F_gotStokes.out ins = G_gotStokes.out ins := by
  obtain ⟨g, r, rfl, h1, _⟩ := ints_lit 12 0 ht
  obtain ⟨b, r2, rfl, h2⟩ := bool_cons h1
  obtain rfl := ints0 h2
  cases b
  · exact ⟨trivial, congrFun out_gotStokes' g⟩
  · exact ⟨trivial, congrFun out_gotStokes g⟩

def tr_iStokesValid : Tr :=
  (.evs [.call 0 [(.var 0), (.var 1), (.var 2)] none 1]
  (.ite (.not (.var 12))
  (.ret [(.bool false)])
  (.evs [.call 0 [(.var 3), (.var 4), (.var 5)] none 1]
   (.ite (.not (.var 13))
   (.ret [(.bool false)])
   (.evs [.call 0 [(.var 6), (.var 7), (.var 8)] none 1]
    (.ite (.not (.var 14))
    (.ret [(.bool false)])
    (.evs [.call 0 [(.var 9), (.var 10), (.var 11)] none 1]
     (.ite (.not (.var 15))
     (.ret [(.bool false)])
     (.ret [(.bool true)])))))))))
def Fs_iStokesValid : List Fun1 := [G_realOk]
def F_iStokesValid : Fun1 := ofTree Fs_iStokesValid tr_iStokesValid
def G_iStokesValid : Fun1 := ⟨fun _ => True, fun ins => [.bool (stQ fun k => q3 ins (3 * k))]⟩
theorem out_iStokesValid : (fun (g : Nat → Int) => F_iStokesValid.out (ivs g 0 12)) = fun g => nestC (fun k => .bool (!realQ (q3 (ivs g 0 12) (3 * k)))) 0 4 := by kernel_rfl
theorem as_iStokesValid (ins : List Value) (ht : TypedL (intTs 12 ++ []) ins) (_ : G_iStokesValid.pre ins) : F_iStokesValid.pre ins ∧ F_iStokesValid.out ins = G_iStokesValid.out ins := by
  obtain ⟨g, r, rfl, h1, _⟩ := ints_lit 12 0 ht
  obtain rfl := ints0 h1
  rw [List.append_nil]
  refine ⟨okT_free (by intro F hF ins; simp only [Fs_iStokesValid, List.mem_singleton] at hF; rw [hF]; trivial) _ _ (by kernel_rfl), (congrFun out_iStokesValid g).trans ?_⟩
  exact nestC_eq (fun k => rfl) 4 0

def tr_sStokesValid : Tr :=
  (.evs [.call 0 [(.var 0), (.var 1), (.var 2)] none 1]
  (.ite (.ite (.not (.var 12)) (.bool true) (.cmp .neq (.var 1) (.int .i64 0)))
  (.ret [(.bool false)])
  (.evs [.call 0 [(.var 3), (.var 4), (.var 5)] none 1]
   (.ite (.ite (.not (.var 13)) (.bool true) (.cmp .neq (.var 4) (.int .i64 0)))
   (.ret [(.bool false)])
   (.evs [.call 0 [(.var 6), (.var 7), (.var 8)] none 1]
    (.ite (.ite (.not (.var 14)) (.bool true) (.cmp .neq (.var 7) (.int .i64 0)))
    (.ret [(.bool false)])
    (.evs [.call 0 [(.var 9), (.var 10), (.var 11)] none 1]
     (.ite (.ite (.not (.var 15)) (.bool true) (.cmp .neq (.var 10) (.int .i64 0)))
     (.ret [(.bool false)])
     (.ret [(.bool true)])))))))))
def Fs_sStokesValid : List Fun1 := [G_sFracValid]
def F_sStokesValid : Fun1 := ofTree Fs_sStokesValid tr_sStokesValid
def G_sStokesValid : Fun1 := ⟨fun _ => True, fun ins => [.bool (allB (fun k => realQ (q3 ins (3 * k))) 0 4)]⟩
theorem out_sStokesValid : (fun (g : Nat → Int) => F_sStokesValid.out (ivs g 0 12)) = fun g => nestC (fun k => if toB (.bool (!validQ (q3 (ivs g 0 12) (3 * k)))) = true then .bool true else .bool (i0 (ivs g 0 12) (3 * k + 1) != 0)) 0 4 := by kernel_rfl
theorem as_sStokesValid (ins : List Value) (ht : TypedL (intTs 12 ++ []) ins) (_ : G_sStokesValid.pre ins) : F_sStokesValid.pre ins ∧ F_sStokesValid.out ins = G_sStokesValid.out ins := by
  obtain ⟨g, r, rfl, h1, _⟩ := ints_lit 12 0 ht
  obtain rfl := ints0 h1
  rw [List.append_nil]
  refine ⟨okT_free (by intro F hF ins; simp only [Fs_sStokesValid, List.mem_singleton] at hF; rw [hF]; trivial) _ _ (by kernel_rfl), (congrFun out_sStokesValid g).trans ?_⟩
  refine nestC_eq (fun k => ?_) 4 0
  simp only [toB_bool, realQ, q3]
  by_cases h : validQ (i0 (ivs g 0 12) (3 * k), i0 (ivs g 0 12) (3 * k + 1), i0 (ivs g 0 12) (3 * k + 2)) = true <;> simp [bne, h]
def A_sStokesValid : AF := aAny 1
theorem aok_sStokesValid {cb : CodeB} : AOK cb G_sStokesValid A_sStokesValid := aAny_ok (fun _ => trivial) (fun ins => by rfl)

def tr_iTableApply : Tr :=
  (.evs [.call 0 [(.var 0), (.var 1), (.var 2), (.var 3), (.var 4), (.var 5), (.var 6), (.var 7), (.var 8), (.var 9), (.var 10), (.var 11), (.var 12), (.var 13), (.var 14), (.var 15), (.var 16), (.var 17), (.var 18), (.var 19), (.var 20), (.var 21), (.var 22), (.var 23), (.var 24), (.var 25), (.var 26), (.var 27), (.var 28), (.var 29), (.var 30), (.var 31), (.var 32), (.var 33), (.var 34), (.var 35), (.var 36), (.var 37), (.var 38), (.var 39), (.var 40), (.var 41), (.var 42), (.var 43), (.var 44), (.var 45), (.var 46), (.var 47)] none 1,
    .call 1 [(.var 48), (.var 49), (.var 50), (.var 51), (.var 52), (.var 53), (.var 54), (.var 55), (.var 56), (.var 57), (.var 58), (.var 59)] (some (.var 60)) 1,
    .call 2 [(.ite (.var 60) (.var 61) (.bool false)), (.bool false)] none 1]
  (.evs [.call 3 [(.var 0), (.var 1), (.var 2), (.var 48), (.var 49), (.var 50), (.var 62)] none 4]
  (.evs [.call 3 [(.var 3), (.var 4), (.var 5), (.var 51), (.var 52), (.var 53), (.var 66)] none 4,
    .call 4 [(.var 63), (.var 64), (.var 65), (.var 67), (.var 68), (.var 69), (.var 70)] none 4]
  (.evs [.call 3 [(.var 6), (.var 7), (.var 8), (.var 54), (.var 55), (.var 56), (.var 74)] none 4,
    .call 4 [(.var 71), (.var 72), (.var 73), (.var 75), (.var 76), (.var 77), (.var 78)] none 4]
  (.evs [.call 3 [(.var 9), (.var 10), (.var 11), (.var 57), (.var 58), (.var 59), (.var 82)] none 4,
    .call 4 [(.var 79), (.var 80), (.var 81), (.var 83), (.var 84), (.var 85), (.var 86)] none 4]
  (.evs [.call 3 [(.var 12), (.var 13), (.var 14), (.var 48), (.var 49), (.var 50), (.var 90)] none 4]
  (.evs [.call 3 [(.var 15), (.var 16), (.var 17), (.var 51), (.var 52), (.var 53), (.var 94)] none 4,
    .call 4 [(.var 91), (.var 92), (.var 93), (.var 95), (.var 96), (.var 97), (.var 98)] none 4]
  (.evs [.call 3 [(.var 18), (.var 19), (.var 20), (.var 54), (.var 55), (.var 56), (.var 102)] none 4,
    .call 4 [(.var 99), (.var 100), (.var 101), (.var 103), (.var 104), (.var 105), (.var 106)] none 4]
  (.evs [.call 3 [(.var 21), (.var 22), (.var 23), (.var 57), (.var 58), (.var 59), (.var 110)] none 4,
    .call 4 [(.var 107), (.var 108), (.var 109), (.var 111), (.var 112), (.var 113), (.var 114)] none 4]
  (.evs [.call 3 [(.var 24), (.var 25), (.var 26), (.var 48), (.var 49), (.var 50), (.var 118)] none 4]
  (.evs [.call 3 [(.var 27), (.var 28), (.var 29), (.var 51), (.var 52), (.var 53), (.var 122)] none 4,
    .call 4 [(.var 119), (.var 120), (.var 121), (.var 123), (.var 124), (.var 125), (.var 126)] none 4]
  (.evs [.call 3 [(.var 30), (.var 31), (.var 32), (.var 54), (.var 55), (.var 56), (.var 130)] none 4,
    .call 4 [(.var 127), (.var 128), (.var 129), (.var 131), (.var 132), (.var 133), (.var 134)] none 4]
  (.evs [.call 3 [(.var 33), (.var 34), (.var 35), (.var 57), (.var 58), (.var 59), (.var 138)] none 4,
    .call 4 [(.var 135), (.var 136), (.var 137), (.var 139), (.var 140), (.var 141), (.var 142)] none 4]
  (.evs [.call 3 [(.var 36), (.var 37), (.var 38), (.var 48), (.var 49), (.var 50), (.var 146)] none 4]
  (.evs [.call 3 [(.var 39), (.var 40), (.var 41), (.var 51), (.var 52), (.var 53), (.var 150)] none 4,
    .call 4 [(.var 147), (.var 148), (.var 149), (.var 151), (.var 152), (.var 153), (.var 154)] none 4]
  (.evs [.call 3 [(.var 42), (.var 43), (.var 44), (.var 54), (.var 55), (.var 56), (.var 158)] none 4,
    .call 4 [(.var 155), (.var 156), (.var 157), (.var 159), (.var 160), (.var 161), (.var 162)] none 4]
  (.evs [.call 3 [(.var 45), (.var 46), (.var 47), (.var 57), (.var 58), (.var 59), (.var 166)] none 4,
    .call 4 [(.var 163), (.var 164), (.var 165), (.var 167), (.var 168), (.var 169), (.var 170)] none 4]
  (.evs [.call 5 [(.var 87), (.var 88), (.var 89), (.var 115), (.var 116), (.var 117), (.var 143), (.var 144), (.var 145), (.var 171), (.var 172), (.var 173), (.var 174)] none 14]
  (.ret [(.var 175), (.var 176), (.var 177), (.var 178), (.var 179), (.var 180), (.var 181), (.var 182), (.var 183), (.var 184), (.var 185), (.var 186), (.var 187)])))))))))))))))))))
def Fs_iTableApply : List Fun1 := [G_iTableValid, G_iStokesValid, G_need, G_times, G_add, G_gotStokes]
def F_iTableApply : Fun1 := ofTree Fs_iTableApply tr_iTableApply
def apQ (ins : List Value) : Bool := tabQ (fun k => q3 ins (3 * k)) && stQ (fun k => q3 ins (48 + 3 * k))
def apD (ins : List Value) (k : Nat) : Option Q := dotQ (rowF (fun k => q3 ins (3 * k)) k) (fun k => q3 ins (48 + 3 * k))
def G_iTableApply : Fun1 := ⟨fun _ => True, fun ins => nttW 4 (apQ ins) (apD ins)⟩
def taI (a b : Nat → Q) : List Q × Bool := cellsI (fun k s => cellI (rowF a k) b s) 0 4 (false || !andG (tabQ a) (stQ b))
theorem taI_fin (a b : Nat → Q) : gotL (taI a b).2 (taI a b).1 ++ [.bool (!(taI a b).2)] = nttV 4 (tabQ a && stQ b) (fun k => dotQ (rowF a k) b) := by
  unfold taI
  rw [andG_eq, Bool.false_or]
  exact nttI_eq (d := fun k => dotQ (rowF a k) b) (fun k s => cellI_spec _ _ s) 4 _
theorem out_iTableApply : (fun (g : Nat → Int) => evalT' Fs_iTableApply tr_iTableApply (ivs g 0 60)) = fun g =>
    gotL (taI (fun k => q3 (ivs g 0 60) (3 * k)) (fun k => q3 (ivs g 0 60) (48 + 3 * k))).2 (taI (fun k => q3 (ivs g 0 60) (3 * k)) (fun k => q3 (ivs g 0 60) (48 + 3 * k))).1 ++
      [.bool (!(taI (fun k => q3 (ivs g 0 60) (3 * k)) (fun k => q3 (ivs g 0 60) (48 + 3 * k))).2)] := by kernel_rfl
theorem as_iTableApply (ins : List Value) (ht : TypedL (intTs 60 ++ []) ins) (_ : G_iTableApply.pre ins) : F_iTableApply.pre ins ∧ F_iTableApply.out ins = G_iTableApply.out ins := by
  obtain ⟨g, r, rfl, h1, _⟩ := ints_lit 60 0 ht
  obtain rfl := ints0 h1
  rw [List.append_nil]
  refine ⟨okT_free (by intro F hF ins; simp only [Fs_iTableApply, List.mem_cons, List.not_mem_nil, or_false] at hF; rcases hF with rfl | rfl | rfl | rfl | rfl | rfl <;> trivial) _ _ (by kernel_rfl), (evalT_sel (lens := [1, 1]) (Lens.cons (fun _ => rfl) (Lens.cons (fun _ => rfl) Lens.nil)) _ _ (by kernel_rfl)).trans ((congrFun out_iTableApply g).trans ?_)⟩
  exact (taI_fin _ _).trans (nttV_eq _ _ _)

def tr_sTableApply : Tr :=
  (.evs [.call 0 [(.var 0), (.var 1), (.var 2), (.var 3), (.var 4), (.var 5), (.var 6), (.var 7), (.var 8), (.var 9), (.var 10), (.var 11), (.var 12), (.var 13), (.var 14), (.var 15), (.var 16), (.var 17), (.var 18), (.var 19), (.var 20), (.var 21), (.var 22), (.var 23), (.var 24), (.var 25), (.var 26), (.var 27), (.var 28), (.var 29), (.var 30), (.var 31), (.var 32), (.var 33), (.var 34), (.var 35), (.var 36), (.var 37), (.var 38), (.var 39), (.var 40), (.var 41), (.var 42), (.var 43), (.var 44), (.var 45), (.var 46), (.var 47)] none 1,
    .call 1 [(.var 48), (.var 49), (.var 50), (.var 51), (.var 52), (.var 53), (.var 54), (.var 55), (.var 56), (.var 57), (.var 58), (.var 59)] (some (.var 60)) 1]
  (.ite (.ite (.var 60) (.var 61) (.bool false))
  (.evs [.call 2 [(.var 0), (.var 1), (.var 2), (.var 3), (.var 4), (.var 5), (.var 6), (.var 7), (.var 8), (.var 9), (.var 10), (.var 11), (.var 12), (.var 13), (.var 14), (.var 15), (.var 16), (.var 17), (.var 18), (.var 19), (.var 20), (.var 21), (.var 22), (.var 23), (.var 24), (.var 25), (.var 26), (.var 27), (.var 28), (.var 29), (.var 30), (.var 31), (.var 32), (.var 33), (.var 34), (.var 35), (.var 36), (.var 37), (.var 38), (.var 39), (.var 40), (.var 41), (.var 42), (.var 43), (.var 44), (.var 45), (.var 46), (.var 47)] none 12,
     .call 6 [(.var 62), (.var 63), (.var 64), (.var 65), (.var 66), (.var 67), (.var 68), (.var 69), (.var 70), (.var 71), (.var 72), (.var 73), (.var 48), (.var 49), (.var 50), (.var 51), (.var 52), (.var 53), (.var 54), (.var 55), (.var 56), (.var 57), (.var 58), (.var 59), (.ite (.var 60) (.var 61) (.bool false))] none 4]
   (.ite (.var 77)
   (.evs [.call 3 [(.var 0), (.var 1), (.var 2), (.var 3), (.var 4), (.var 5), (.var 6), (.var 7), (.var 8), (.var 9), (.var 10), (.var 11), (.var 12), (.var 13), (.var 14), (.var 15), (.var 16), (.var 17), (.var 18), (.var 19), (.var 20), (.var 21), (.var 22), (.var 23), (.var 24), (.var 25), (.var 26), (.var 27), (.var 28), (.var 29), (.var 30), (.var 31), (.var 32), (.var 33), (.var 34), (.var 35), (.var 36), (.var 37), (.var 38), (.var 39), (.var 40), (.var 41), (.var 42), (.var 43), (.var 44), (.var 45), (.var 46), (.var 47)] none 12,
      .call 6 [(.var 78), (.var 79), (.var 80), (.var 81), (.var 82), (.var 83), (.var 84), (.var 85), (.var 86), (.var 87), (.var 88), (.var 89), (.var 48), (.var 49), (.var 50), (.var 51), (.var 52), (.var 53), (.var 54), (.var 55), (.var 56), (.var 57), (.var 58), (.var 59), (.var 77)] none 4]
    (.ite (.var 93)
    (.evs [.call 4 [(.var 0), (.var 1), (.var 2), (.var 3), (.var 4), (.var 5), (.var 6), (.var 7), (.var 8), (.var 9), (.var 10), (.var 11), (.var 12), (.var 13), (.var 14), (.var 15), (.var 16), (.var 17), (.var 18), (.var 19), (.var 20), (.var 21), (.var 22), (.var 23), (.var 24), (.var 25), (.var 26), (.var 27), (.var 28), (.var 29), (.var 30), (.var 31), (.var 32), (.var 33), (.var 34), (.var 35), (.var 36), (.var 37), (.var 38), (.var 39), (.var 40), (.var 41), (.var 42), (.var 43), (.var 44), (.var 45), (.var 46), (.var 47)] none 12,
       .call 6 [(.var 94), (.var 95), (.var 96), (.var 97), (.var 98), (.var 99), (.var 100), (.var 101), (.var 102), (.var 103), (.var 104), (.var 105), (.var 48), (.var 49), (.var 50), (.var 51), (.var 52), (.var 53), (.var 54), (.var 55), (.var 56), (.var 57), (.var 58), (.var 59), (.var 93)] none 4]
     (.ite (.var 109)
     (.evs [.call 5 [(.var 0), (.var 1), (.var 2), (.var 3), (.var 4), (.var 5), (.var 6), (.var 7), (.var 8), (.var 9), (.var 10), (.var 11), (.var 12), (.var 13), (.var 14), (.var 15), (.var 16), (.var 17), (.var 18), (.var 19), (.var 20), (.var 21), (.var 22), (.var 23), (.var 24), (.var 25), (.var 26), (.var 27), (.var 28), (.var 29), (.var 30), (.var 31), (.var 32), (.var 33), (.var 34), (.var 35), (.var 36), (.var 37), (.var 38), (.var 39), (.var 40), (.var 41), (.var 42), (.var 43), (.var 44), (.var 45), (.var 46), (.var 47)] none 12,
        .call 6 [(.var 110), (.var 111), (.var 112), (.var 113), (.var 114), (.var 115), (.var 116), (.var 117), (.var 118), (.var 119), (.var 120), (.var 121), (.var 48), (.var 49), (.var 50), (.var 51), (.var 52), (.var 53), (.var 54), (.var 55), (.var 56), (.var 57), (.var 58), (.var 59), (.var 109)] none 4]
      (.ite (.not (.var 125))
      (.ret [(.int .i64 0), (.int .i64 0), (.int .i64 0), (.int .i64 0), (.int .i64 0), (.int .i64 0), (.int .i64 0), (.int .i64 0), (.int .i64 0), (.int .i64 0), (.int .i64 0), (.int .i64 0), (.bool false)])
      (.ret [(.var 74), (.var 75), (.var 76), (.var 90), (.var 91), (.var 92), (.var 106), (.var 107), (.var 108), (.var 122), (.var 123), (.var 124), (.bool true)])))
     (.ite (.not (.var 109))
      (.ret [(.int .i64 0), (.int .i64 0), (.int .i64 0), (.int .i64 0), (.int .i64 0), (.int .i64 0), (.int .i64 0), (.int .i64 0), (.int .i64 0), (.int .i64 0), (.int .i64 0), (.int .i64 0), (.bool false)])
      (.ret [(.var 74), (.var 75), (.var 76), (.var 90), (.var 91), (.var 92), (.var 106), (.var 107), (.var 108), (.int .i64 0), (.int .i64 0), (.int .i64 0), (.bool true)]))))
    (.ite (.not (.var 93))
     (.ret [(.int .i64 0), (.int .i64 0), (.int .i64 0), (.int .i64 0), (.int .i64 0), (.int .i64 0), (.int .i64 0), (.int .i64 0), (.int .i64 0), (.int .i64 0), (.int .i64 0), (.int .i64 0), (.bool false)])
     (.ret [(.var 74), (.var 75), (.var 76), (.var 90), (.var 91), (.var 92), (.int .i64 0), (.int .i64 0), (.int .i64 0), (.int .i64 0), (.int .i64 0), (.int .i64 0), (.bool true)]))))
   (.ite (.not (.var 77))
    (.ret [(.int .i64 0), (.int .i64 0), (.int .i64 0), (.int .i64 0), (.int .i64 0), (.int .i64 0), (.int .i64 0), (.int .i64 0), (.int .i64 0), (.int .i64 0), (.int .i64 0), (.int .i64 0), (.bool false)])
    (.ret [(.var 74), (.var 75), (.var 76), (.int .i64 0), (.int .i64 0), (.int .i64 0), (.int .i64 0), (.int .i64 0), (.int .i64 0), (.int .i64 0), (.int .i64 0), (.int .i64 0), (.bool true)]))))
  (.ite (.not (.ite (.var 60) (.var 61) (.bool false)))
   (.ret [(.int .i64 0), (.int .i64 0), (.int .i64 0), (.int .i64 0), (.int .i64 0), (.int .i64 0), (.int .i64 0), (.int .i64 0), (.int .i64 0), (.int .i64 0), (.int .i64 0), (.int .i64 0), (.bool false)])
   (.ret [(.int .i64 0), (.int .i64 0), (.int .i64 0), (.int .i64 0), (.int .i64 0), (.int .i64 0), (.int .i64 0), (.int .i64 0), (.int .i64 0), (.int .i64 0), (.int .i64 0), (.int .i64 0), (.bool true)]))))
def Fs_sTableApply : List Fun1 := [G_sTableValid, G_sStokesValid, F_l6tOf0, F_l6tOf1, F_l6tOf2, F_l6tOf3, G_l6tRow]
def F_sTableApply : Fun1 := ofTree Fs_sTableApply tr_sTableApply
def G_sTableApply : Fun1 := ⟨fun _ => True, fun ins => nttW 4 (apQ ins) (apD ins)⟩
theorem out_sTableApply : (fun (g : Nat → Int) => evalT' Fs_sTableApply tr_sTableApply (ivs g 0 60)) = fun g =>
    nnestS 4 (fun k s => cellS' (rowF (fun k => q3 (ivs g 0 60) (3 * k)) k) (fun k => q3 (ivs g 0 60) (48 + 3 * k)) s) 4 0 [] (andG (tabQ fun k => q3 (ivs g 0 60) (3 * k)) (stQ fun k => q3 (ivs g 0 60) (48 + 3 * k))) := by kernel_rfl
theorem taS_fin (a b : Nat → Q) : nnestS 4 (fun k s => cellS' (rowF a k) b s) 4 0 [] (andG (tabQ a) (stQ b)) = nttV 4 (tabQ a && stQ b) (fun k => dotQ (rowF a k) b) := by
  rw [andG_eq]
  exact nttS_eq (d := fun k => dotQ (rowF a k) b) (fun k s => by simp only [cellS'_eq]; exact cellS_spec _ _ s) 4 _
theorem as_sTableApply (ins : List Value) (ht : TypedL (intTs 60 ++ []) ins) (_ : G_sTableApply.pre ins) : F_sTableApply.pre ins ∧ F_sTableApply.out ins = G_sTableApply.out ins := by
  obtain ⟨g, r, rfl, h1, _⟩ := ints_lit 60 0 ht
  obtain rfl := ints0 h1
  rw [List.append_nil]
  refine ⟨okT_free (by intro F hF ins; simp only [Fs_sTableApply, List.mem_cons, List.not_mem_nil, or_false] at hF; rcases hF with rfl | rfl | rfl | rfl | rfl | rfl | rfl <;> trivial) _ _ (by kernel_rfl), (evalT_sel (lens := [1, 1]) (Lens.cons (fun _ => rfl) (Lens.cons (fun _ => rfl) Lens.nil)) _ _ (by kernel_rfl)).trans ((congrFun out_sTableApply g).trans ?_)⟩
  exact (taS_fin _ _).trans (nttV_eq _ _ _)

def tr_l3Inner : Tr :=
  (.evs [.call 0 [(.var 0), (.var 1), (.var 2), (.var 3), (.var 4), (.var 5)] none 4]
  (.evs [.call 0 [(.var 6), (.var 7), (.var 8), (.var 9), (.var 10), (.var 11)] none 4]
  (.ite (.ite (.not (.var 15)) (.bool true) (.not (.var 19)))
  (.ret [(.int .i64 0), (.int .i64 0), (.int .i64 0), (.bool false)])
  (.evs [.call 1 [(.var 12), (.var 13), (.var 14), (.var 16), (.var 17), (.var 18)] none 4]
   (.ret [(.var 20), (.var 21), (.var 22), (.var 23)])))))
def Fs_l3Inner : List Fun1 := [G_sFracTimes, G_sFracAdd]
def F_l3Inner : Fun1 := ofTree Fs_l3Inner tr_l3Inner
def G_l3Inner : Fun1 := ⟨fun _ => True, fun ins => fr4 (mixQ (q3 ins 0) (q3 ins 3) (q3 ins 6) (q3 ins 9))⟩
theorem as_l3Inner (ins : List Value) (ht : TypedL (intTs 12 ++ []) ins) (_ : G_l3Inner.pre ins) : F_l3Inner.pre ins ∧ F_l3Inner.out ins = G_l3Inner.out ins := by
  obtain ⟨g, r, rfl, h1, _⟩ := ints_lit 12 0 ht
  obtain rfl := ints0 h1
  rw [List.append_nil]
  simp only [ivs, F_l3Inner, G_l3Inner, tr_l3Inner, Fs_l3Inner, G_sFracTimes, G_sFracAdd, mixQ, q3, fr4, ofTree, okT, okE, evalT, evalE, evsIn, ev, callF, preF, hasF, needs, i0, b0, toI_int, toB_bool, List.getD_cons_zero, List.getD_cons_succ, List.cons_append, List.nil_append, List.replicate, if_true, if_false, Bool.false_eq_true, and_true, true_and, implies_true, forall_const, false_implies, cmpI, Bool.not_true, Bool.not_false, Bool.true_and, Bool.false_and, Bool.and_true, Bool.and_false, reduceIte, List.append_nil, reduceCtorEq]
  cases h1 : timesQ (g 0, g (0 + 1), g (0 + 1 + 1)) (g (0 + 1 + 1 + 1), g (0 + 1 + 1 + 1 + 1), g (0 + 1 + 1 + 1 + 1 + 1)) with
  | none => simp [zq]
  | some x =>
    cases h2 : timesQ (g (0 + 1 + 1 + 1 + 1 + 1 + 1), g (0 + 1 + 1 + 1 + 1 + 1 + 1 + 1), g (0 + 1 + 1 + 1 + 1 + 1 + 1 + 1 + 1)) (g (0 + 1 + 1 + 1 + 1 + 1 + 1 + 1 + 1 + 1), g (0 + 1 + 1 + 1 + 1 + 1 + 1 + 1 + 1 + 1 + 1), g (0 + 1 + 1 + 1 + 1 + 1 + 1 + 1 + 1 + 1 + 1 + 1)) with
    | none => simp [zq]
    | some y => simp

def tr_iTableMix : Tr :=
  (.evs [.call 0 [(.var 97), (.int .i64 1), (.int .i64 100)] none 1,
    .call 0 [(.var 96), (.int .i64 0), (.var 97)] (some (.not (.not (.var 98)))) 1]
  (.ite (.ite (.not (.var 98)) (.bool true) (.not (.var 99)))
  (.ret [(.int .i64 0), (.int .i64 0), (.int .i64 0), (.int .i64 0), (.int .i64 0), (.int .i64 0), (.int .i64 0), (.int .i64 0), (.int .i64 0), (.int .i64 0), (.int .i64 0), (.int .i64 0), (.int .i64 0), (.int .i64 0), (.int .i64 0), (.int .i64 0), (.int .i64 0), (.int .i64 0), (.int .i64 0), (.int .i64 0), (.int .i64 0), (.int .i64 0), (.int .i64 0), (.int .i64 0), (.int .i64 0), (.int .i64 0), (.int .i64 0), (.int .i64 0), (.int .i64 0), (.int .i64 0), (.int .i64 0), (.int .i64 0), (.int .i64 0), (.int .i64 0), (.int .i64 0), (.int .i64 0), (.int .i64 0), (.int .i64 0), (.int .i64 0), (.int .i64 0), (.int .i64 0), (.int .i64 0), (.int .i64 0), (.int .i64 0), (.int .i64 0), (.int .i64 0), (.int .i64 0), (.int .i64 0), (.bool false)])
  (.evs [.call 1 [(.var 0), (.var 1), (.var 2), (.var 3), (.var 4), (.var 5), (.var 6), (.var 7), (.var 8), (.var 9), (.var 10), (.var 11), (.var 12), (.var 13), (.var 14), (.var 15), (.var 16), (.var 17), (.var 18), (.var 19), (.var 20), (.var 21), (.var 22), (.var 23), (.var 24), (.var 25), (.var 26), (.var 27), (.var 28), (.var 29), (.var 30), (.var 31), (.var 32), (.var 33), (.var 34), (.var 35), (.var 36), (.var 37), (.var 38), (.var 39), (.var 40), (.var 41), (.var 42), (.var 43), (.var 44), (.var 45), (.var 46), (.var 47)] none 1,
     .call 1 [(.var 48), (.var 49), (.var 50), (.var 51), (.var 52), (.var 53), (.var 54), (.var 55), (.var 56), (.var 57), (.var 58), (.var 59), (.var 60), (.var 61), (.var 62), (.var 63), (.var 64), (.var 65), (.var 66), (.var 67), (.var 68), (.var 69), (.var 70), (.var 71), (.var 72), (.var 73), (.var 74), (.var 75), (.var 76), (.var 77), (.var 78), (.var 79), (.var 80), (.var 81), (.var 82), (.var 83), (.var 84), (.var 85), (.var 86), (.var 87), (.var 88), (.var 89), (.var 90), (.var 91), (.var 92), (.var 93), (.var 94), (.var 95)] (some (.var 100)) 1,
     .call 2 [(.ite (.var 100) (.var 101) (.bool false)), (.bool false)] none 1]
   (.evs [.call 3 [(.var 96), (.int .i64 0), (.var 97)] none 4]
   (.evs [.call 3 [(.ar .sub .i64 (.var 97) (.var 96)), (.int .i64 0), (.var 97)] none 4]
   (.evs [.call 4 [(.var 0), (.var 1), (.var 2), (.var 103), (.var 104), (.var 105), (.var 102)] none 4,
     .call 4 [(.var 48), (.var 49), (.var 50), (.var 107), (.var 108), (.var 109), (.var 114)] none 4,
     .call 5 [(.var 111), (.var 112), (.var 113), (.var 115), (.var 116), (.var 117), (.var 118)] none 4]
   (.evs [.call 4 [(.var 3), (.var 4), (.var 5), (.var 103), (.var 104), (.var 105), (.var 122)] none 4,
     .call 4 [(.var 51), (.var 52), (.var 53), (.var 107), (.var 108), (.var 109), (.var 126)] none 4,
     .call 5 [(.var 123), (.var 124), (.var 125), (.var 127), (.var 128), (.var 129), (.var 130)] none 4]
   (.evs [.call 4 [(.var 6), (.var 7), (.var 8), (.var 103), (.var 104), (.var 105), (.var 134)] none 4,
     .call 4 [(.var 54), (.var 55), (.var 56), (.var 107), (.var 108), (.var 109), (.var 138)] none 4,
     .call 5 [(.var 135), (.var 136), (.var 137), (.var 139), (.var 140), (.var 141), (.var 142)] none 4]
   (.evs [.call 4 [(.var 9), (.var 10), (.var 11), (.var 103), (.var 104), (.var 105), (.var 146)] none 4,
     .call 4 [(.var 57), (.var 58), (.var 59), (.var 107), (.var 108), (.var 109), (.var 150)] none 4,
     .call 5 [(.var 147), (.var 148), (.var 149), (.var 151), (.var 152), (.var 153), (.var 154)] none 4]
   (.evs [.call 4 [(.var 12), (.var 13), (.var 14), (.var 103), (.var 104), (.var 105), (.var 158)] none 4,
     .call 4 [(.var 60), (.var 61), (.var 62), (.var 107), (.var 108), (.var 109), (.var 162)] none 4,
     .call 5 [(.var 159), (.var 160), (.var 161), (.var 163), (.var 164), (.var 165), (.var 166)] none 4]
   (.evs [.call 4 [(.var 15), (.var 16), (.var 17), (.var 103), (.var 104), (.var 105), (.var 170)] none 4,
     .call 4 [(.var 63), (.var 64), (.var 65), (.var 107), (.var 108), (.var 109), (.var 174)] none 4,
     .call 5 [(.var 171), (.var 172), (.var 173), (.var 175), (.var 176), (.var 177), (.var 178)] none 4]
   (.evs [.call 4 [(.var 18), (.var 19), (.var 20), (.var 103), (.var 104), (.var 105), (.var 182)] none 4,
     .call 4 [(.var 66), (.var 67), (.var 68), (.var 107), (.var 108), (.var 109), (.var 186)] none 4,
     .call 5 [(.var 183), (.var 184), (.var 185), (.var 187), (.var 188), (.var 189), (.var 190)] none 4]
   (.evs [.call 4 [(.var 21), (.var 22), (.var 23), (.var 103), (.var 104), (.var 105), (.var 194)] none 4,
     .call 4 [(.var 69), (.var 70), (.var 71), (.var 107), (.var 108), (.var 109), (.var 198)] none 4,
     .call 5 [(.var 195), (.var 196), (.var 197), (.var 199), (.var 200), (.var 201), (.var 202)] none 4]
   (.evs [.call 4 [(.var 24), (.var 25), (.var 26), (.var 103), (.var 104), (.var 105), (.var 206)] none 4,
     .call 4 [(.var 72), (.var 73), (.var 74), (.var 107), (.var 108), (.var 109), (.var 210)] none 4,
     .call 5 [(.var 207), (.var 208), (.var 209), (.var 211), (.var 212), (.var 213), (.var 214)] none 4]
   (.evs [.call 4 [(.var 27), (.var 28), (.var 29), (.var 103), (.var 104), (.var 105), (.var 218)] none 4,
     .call 4 [(.var 75), (.var 76), (.var 77), (.var 107), (.var 108), (.var 109), (.var 222)] none 4,
     .call 5 [(.var 219), (.var 220), (.var 221), (.var 223), (.var 224), (.var 225), (.var 226)] none 4]
   (.evs [.call 4 [(.var 30), (.var 31), (.var 32), (.var 103), (.var 104), (.var 105), (.var 230)] none 4,
     .call 4 [(.var 78), (.var 79), (.var 80), (.var 107), (.var 108), (.var 109), (.var 234)] none 4,
     .call 5 [(.var 231), (.var 232), (.var 233), (.var 235), (.var 236), (.var 237), (.var 238)] none 4]
   (.evs [.call 4 [(.var 33), (.var 34), (.var 35), (.var 103), (.var 104), (.var 105), (.var 242)] none 4,
     .call 4 [(.var 81), (.var 82), (.var 83), (.var 107), (.var 108), (.var 109), (.var 246)] none 4,
     .call 5 [(.var 243), (.var 244), (.var 245), (.var 247), (.var 248), (.var 249), (.var 250)] none 4]
   (.evs [.call 4 [(.var 36), (.var 37), (.var 38), (.var 103), (.var 104), (.var 105), (.var 254)] none 4,
     .call 4 [(.var 84), (.var 85), (.var 86), (.var 107), (.var 108), (.var 109), (.var 258)] none 4,
     .call 5 [(.var 255), (.var 256), (.var 257), (.var 259), (.var 260), (.var 261), (.var 262)] none 4]
   (.evs [.call 4 [(.var 39), (.var 40), (.var 41), (.var 103), (.var 104), (.var 105), (.var 266)] none 4,
     .call 4 [(.var 87), (.var 88), (.var 89), (.var 107), (.var 108), (.var 109), (.var 270)] none 4,
     .call 5 [(.var 267), (.var 268), (.var 269), (.var 271), (.var 272), (.var 273), (.var 274)] none 4]
   (.evs [.call 4 [(.var 42), (.var 43), (.var 44), (.var 103), (.var 104), (.var 105), (.var 278)] none 4,
     .call 4 [(.var 90), (.var 91), (.var 92), (.var 107), (.var 108), (.var 109), (.var 282)] none 4,
     .call 5 [(.var 279), (.var 280), (.var 281), (.var 283), (.var 284), (.var 285), (.var 286)] none 4]
   (.evs [.call 4 [(.var 45), (.var 46), (.var 47), (.var 103), (.var 104), (.var 105), (.var 290)] none 4,
     .call 4 [(.var 93), (.var 94), (.var 95), (.var 107), (.var 108), (.var 109), (.var 294)] none 4,
     .call 5 [(.var 291), (.var 292), (.var 293), (.var 295), (.var 296), (.var 297), (.var 298)] none 4]
   (.evs [.call 6 [(.var 119), (.var 120), (.var 121), (.var 131), (.var 132), (.var 133), (.var 143), (.var 144), (.var 145), (.var 155), (.var 156), (.var 157), (.var 167), (.var 168), (.var 169), (.var 179), (.var 180), (.var 181), (.var 191), (.var 192), (.var 193), (.var 203), (.var 204), (.var 205), (.var 215), (.var 216), (.var 217), (.var 227), (.var 228), (.var 229), (.var 239), (.var 240), (.var 241), (.var 251), (.var 252), (.var 253), (.var 263), (.var 264), (.var 265), (.var 275), (.var 276), (.var 277), (.var 287), (.var 288), (.var 289), (.var 299), (.var 300), (.var 301), (.var 302)] none 50]
   (.ret [(.var 303), (.var 304), (.var 305), (.var 306), (.var 307), (.var 308), (.var 309), (.var 310), (.var 311), (.var 312), (.var 313), (.var 314), (.var 315), (.var 316), (.var 317), (.var 318), (.var 319), (.var 320), (.var 321), (.var 322), (.var 323), (.var 324), (.var 325), (.var 326), (.var 327), (.var 328), (.var 329), (.var 330), (.var 331), (.var 332), (.var 333), (.var 334), (.var 335), (.var 336), (.var 337), (.var 338), (.var 339), (.var 340), (.var 341), (.var 342), (.var 343), (.var 344), (.var 345), (.var 346), (.var 347), (.var 348), (.var 349), (.var 350), (.var 351)])))))))))))))))))))))))
def Fs_iTableMix : List Fun1 := [G_within, G_iTableValid, G_need, G_lowest, G_times, G_add, G_gotTable]
def F_iTableMix : Fun1 := ofTree Fs_iTableMix tr_iTableMix
def mxN (ins : List Value) : Bool := inRg (i0 ins 97) 1 100 && inRg (i0 ins 96) 0 (i0 ins 97)
def mxT (ins : List Value) : Bool := mxN ins && (tabQ (fun k => q3 ins (3 * k)) && tabQ (fun k => q3 ins (48 + 3 * k)))
def mxP (ins : List Value) : Q := (makeI (i0 ins 96) 0 (i0 ins 97)).getD zq
def mxR (ins : List Value) : Q := (makeI (IntKind.i64.wrap (i0 ins 97 - i0 ins 96)) 0 (i0 ins 97)).getD zq
def mxD (ins : List Value) (k : Nat) : Option Q := mixQ (q3 ins (3 * k)) (mxP ins) (q3 ins (48 + 3 * k)) (mxR ins)
def G_iTableMix : Fun1 := ⟨fun _ => True, fun ins => nttW 16 (mxT ins) (mxD ins)⟩
def mixL (a b : Nat → Q) (p q : Q) : List Q × Bool := cellsI (fun k s => mixI s (a k) p (b k) q) 0 16 (false || !andG (tabQ a) (tabQ b))
theorem mixL_fin (a b : Nat → Q) (p q : Q) : gotL (mixL a b p q).2 (mixL a b p q).1 ++ [.bool (!(mixL a b p q).2)] = nttV 16 (tabQ a && tabQ b) (fun k => mixQ (a k) p (b k) q) := by
  unfold mixL
  rw [andG_eq, Bool.false_or]
  exact nttI_eq (d := fun k => mixQ (a k) p (b k) q) (fun k s => mixI_spec _ _ _ _ s) 16 _
theorem out_iTableMix : (fun (g : Nat → Int) => evalT' Fs_iTableMix tr_iTableMix (ivs g 0 98)) = fun g =>
    if orG (!inRg (g 97) 1 100) (inRg (g 96) 0 (g 97)) = true then zeros 48 ++ [.bool false] else
    gotL (mixL (fun k => q3 (ivs g 0 98) (3 * k)) (fun k => q3 (ivs g 0 98) (48 + 3 * k)) ((lowI (g 96) 0 (g 97)).getD zq) ((lowI (IntKind.i64.wrap (g 97 - g 96)) 0 (g 97)).getD zq)).2
      (mixL (fun k => q3 (ivs g 0 98) (3 * k)) (fun k => q3 (ivs g 0 98) (48 + 3 * k)) ((lowI (g 96) 0 (g 97)).getD zq) ((lowI (IntKind.i64.wrap (g 97 - g 96)) 0 (g 97)).getD zq)).1 ++
      [.bool (!(mixL (fun k => q3 (ivs g 0 98) (3 * k)) (fun k => q3 (ivs g 0 98) (48 + 3 * k)) ((lowI (g 96) 0 (g 97)).getD zq) ((lowI (IntKind.i64.wrap (g 97 - g 96)) 0 (g 97)).getD zq)).2)] := by kernel_rfl
theorem mx_facts {k n : Int} (h : (inRg n 1 100 && inRg k 0 n) = true) : lowOk k 0 n ∧ lowOk (IntKind.i64.wrap (n - k)) 0 n ∧ lowI k 0 n = makeI k 0 n ∧ lowI (IntKind.i64.wrap (n - k)) 0 n = makeI (IntKind.i64.wrap (n - k)) 0 n := by
  simp only [Bool.and_eq_true, inRg_iff] at h
  obtain ⟨⟨h1, h2⟩, h3, h4⟩ := h
  rw [wrap_in (z := n - k) (by omega)]
  refine ⟨by unfold lowOk; omega, by unfold lowOk; omega, (make_small (x := 100) (by omega) (by omega) h1 (by omega)).symm, (make_small (x := 100) (by omega) (by omega) h1 (by omega)).symm⟩
theorem frees_iTableMix : Free Fs_iTableMix [true, true, true, false, true, true, true] :=
  .yes (fun _ => trivial) (.yes (fun _ => trivial) (.yes (fun _ => trivial) (.no (.yes (fun _ => trivial) (.yes (fun _ => trivial) (.yes (fun _ => trivial) .nil))))))
theorem as_iTableMix (ins : List Value) (ht : TypedL (intTs 98 ++ []) ins) (_ : G_iTableMix.pre ins) : F_iTableMix.pre ins ∧ F_iTableMix.out ins = G_iTableMix.out ins := by
  obtain ⟨g, r, rfl, h1, _⟩ := ints_lit 98 0 ht
  obtain rfl := ints0 h1
  rw [List.append_nil]
  have e1 : F_iTableMix.out (ivs g 0 98) = _ := (evalT_sel (lens := [1, 1]) (Lens.cons (fun _ => rfl) (Lens.cons (fun _ => rfl) Lens.nil)) _ _ (by kernel_rfl)).trans (congrFun out_iTableMix g)
  have e2 : G_iTableMix.out (ivs g 0 98) = nttW 16 ((inRg (g 97) 1 100 && inRg (g 96) 0 (g 97)) && (tabQ (fun k => q3 (ivs g 0 98) (3 * k)) && tabQ (fun k => q3 (ivs g 0 98) (48 + 3 * k)))) (fun k => mixQ (q3 (ivs g 0 98) (3 * k)) ((makeI (g 96) 0 (g 97)).getD zq) (q3 (ivs g 0 98) (48 + 3 * k)) ((makeI (IntKind.i64.wrap (g 97 - g 96)) 0 (g 97)).getD zq)) := rfl
  rw [e1, e2]
  show okT Fs_iTableMix tr_iTableMix _ ∧ _
  have hc : orG (!inRg (g 97) 1 100) (inRg (g 96) 0 (g 97)) = !(inRg (g 97) 1 100 && inRg (g 96) 0 (g 97)) := by rw [orG_eq]; cases inRg (g 97) 1 100 <;> cases inRg (g 96) 0 (g 97) <;> rfl
  refine ⟨?_, ?_⟩
  · unfold tr_iTableMix
    refine ⟨okE_mask frees_iTableMix _ _ (by kernel_rfl), okT_ite (fun _ => trivial) fun hn => ?_⟩
    have hL : Lens Fs_iTableMix [1, 1] := Lens.cons (fun _ => rfl) (Lens.cons (fun _ => rfl) Lens.nil)
    rw [evalE_sel hL _ _ (by kernel_rfl)] at hn
    have hn2 : orG (!inRg (g 97) 1 100) (inRg (g 96) 0 (g 97)) = false := Eq.mp (by kernel_rfl) hn
    rw [hc] at hn2
    obtain ⟨l1, l2, _, _⟩ := mx_facts (by simpa using hn2)
    refine ⟨okE_mask frees_iTableMix _ _ (by kernel_rfl), ⟨⟨Eq.mpr (?e1 : _ = lowOk (g 96) 0 (g 97)) l1, trivial⟩, ⟨⟨Eq.mpr (?e2 : _ = lowOk (IntKind.i64.wrap (g 97 - g 96)) 0 (g 97)) l2, trivial⟩, okT_mask frees_iTableMix _ _ (by kernel_rfl)⟩⟩⟩
    · kernel_rfl
    · kernel_rfl
  · rw [hc]
    cases hb : (inRg (g 97) 1 100 && inRg (g 96) 0 (g 97)) with
    | false => rw [← nttV_eq]; rfl
    | true =>
      obtain ⟨l1, l2, l3, l4⟩ := mx_facts hb
      rw [l3, l4, ← nttV_eq]
      simp only [Bool.not_true, Bool.false_eq_true, if_false, Bool.true_and]
      exact mixL_fin _ _ _ _

def tr_sMatValid : Tr :=
  (.evs [.call 0 [(.var 0), (.var 1), (.var 2)] none 1]
  (.ite (.not (.var 12))
  (.ret [(.bool false)])
  (.evs [.call 0 [(.var 3), (.var 4), (.var 5)] none 1]
   (.ite (.not (.var 13))
   (.ret [(.bool false)])
   (.evs [.call 0 [(.var 6), (.var 7), (.var 8)] none 1]
    (.ite (.not (.var 14))
    (.ret [(.bool false)])
    (.evs [.call 0 [(.var 9), (.var 10), (.var 11)] none 1]
     (.ite (.not (.var 15))
     (.ret [(.bool false)])
     (.ret [(.bool true)])))))))))
def Fs_sMatValid : List Fun1 := [G_sFracValid]
def F_sMatValid : Fun1 := ofTree Fs_sMatValid tr_sMatValid
def G_sMatValid : Fun1 := ⟨fun _ => True, fun ins => [.bool (matQ fun k => q3 ins (3 * k))]⟩
theorem out_sMatValid : (fun (g : Nat → Int) => F_sMatValid.out (ivs g 0 12)) = fun g => nestC (fun k => .bool (!validQ (q3 (ivs g 0 12) (3 * k)))) 0 4 := by kernel_rfl
theorem as_sMatValid (ins : List Value) (ht : TypedL (intTs 12 ++ []) ins) (_ : G_sMatValid.pre ins) : F_sMatValid.pre ins ∧ F_sMatValid.out ins = G_sMatValid.out ins := by
  obtain ⟨g, r, rfl, h1, _⟩ := ints_lit 12 0 ht
  obtain rfl := ints0 h1
  rw [List.append_nil]
  refine ⟨okT_free (by intro F hF ins; simp only [Fs_sMatValid, List.mem_singleton] at hF; rw [hF]; trivial) _ _ (by kernel_rfl), (congrFun out_sMatValid g).trans ?_⟩
  exact nestC_eq (fun k => rfl) 4 0

def tr_sFracMirror : Tr :=
  (.evs [.call 0 [(.var 0), (.var 1), (.var 2)] none 1]
  (.ite (.not (.var 3))
  (.ret [(.int .i64 0), (.int .i64 0), (.int .i64 0), (.bool false)])
  (.ret [(.var 0), (.ar .sub .i64 (.int .i64 0) (.var 1)), (.var 2), (.bool true)])))
def Fs_sFracMirror : List Fun1 := [G_sFracValid]
def F_sFracMirror : Fun1 := ofTree Fs_sFracMirror tr_sFracMirror
def G_sFracMirror : Fun1 := ⟨fun _ => True, fun ins => fr4 (mirQ (q3 ins 0))⟩
theorem as_sFracMirror (ins : List Value) (ht : TypedL [.int .i64, .int .i64, .int .i64] ins) (_ : G_sFracMirror.pre ins) : F_sFracMirror.pre ins ∧ F_sFracMirror.out ins = G_sFracMirror.out ins := by
  obtain ⟨a, b, c, rfl, _⟩ := ints3 ht
  simp only [F_sFracMirror, G_sFracMirror, tr_sFracMirror, Fs_sFracMirror, G_sFracValid, mirQ, validQ, q3, arI, ofTree, okT, okE, evalT, evalE, evsIn, ev, callF, preF, hasF, needs, i0, b0, toI_int, toB_bool, List.getD_cons_zero, List.getD_cons_succ, List.cons_append, List.nil_append, List.replicate, if_true, if_false, Bool.false_eq_true, and_true, true_and, implies_true, forall_const, false_implies, cmpI, Bool.not_true, Bool.not_false, Bool.true_and, Bool.false_and, Bool.and_true, Bool.and_false, reduceIte, List.append_nil, reduceCtorEq]
  cases h : validI a b c
  · simp [fr4, zq]
  · obtain ⟨b1, b2, b3⟩ := valid_bounds h
    have e : IntKind.i64.wrap (-b) = -b := wrap_in (by omega)
    simp [fr4, e]
def A_sFracMirror : AF := aAny 4
theorem aok_sFracMirror {cb : CodeB} : AOK cb G_sFracMirror A_sFracMirror := aAny_ok (fun _ => trivial) (fun ins => by rfl)

def tr_l2SumP : Tr :=
  (.evs [.call 0 [(.var 0), (.var 1), (.var 2)] none 1,
    .call 0 [(.var 3), (.var 4), (.var 5)] (some (.not (.not (.var 6)))) 1]
  (.ite (.ite (.not (.var 6)) (.bool true) (.not (.var 7)))
  (.ret [(.int .i64 0), (.int .i64 0), (.int .i64 0), (.bool false)])
  (.evs [.call 1 [(.ar .add .i64 (.ar .mul .i64 (.var 0) (.var 5)) (.ar .mul .i64 (.ar .mul .i64 (.int .i64 1) (.var 3)) (.var 2))), (.ar .add .i64 (.ar .mul .i64 (.var 1) (.var 5)) (.ar .mul .i64 (.ar .mul .i64 (.int .i64 1) (.var 4)) (.var 2))), (.ar .mul .i64 (.var 2) (.var 5))] none 4]
   (.ret [(.var 8), (.var 9), (.var 10), (.var 11)]))))
def Fs_l2SumP : List Fun1 := [G_sFracValid, G_l2Low]
def F_l2SumP : Fun1 := ofTree Fs_l2SumP tr_l2SumP
def G_l2SumP : Fun1 := ⟨fun _ => True, fun ins => fr4 (addQ (q3 ins 0) (q3 ins 3))⟩
theorem as_l2SumP (ins : List Value) (ht : TypedL [.int .i64, .int .i64, .int .i64, .int .i64, .int .i64, .int .i64] ins) (_ : G_l2SumP.pre ins) : F_l2SumP.pre ins ∧ F_l2SumP.out ins = G_l2SumP.out ins := by
  obtain ⟨a, b, c, x, y, z, rfl, _⟩ := ints6 ht
  cases h : validI a b c
  · simp only [F_l2SumP, G_l2SumP, tr_l2SumP, Fs_l2SumP, G_sFracValid, G_l2Low, addQ, validQ, q3, arI, h, ofTree, okT, okE, evalT, evalE, evsIn, ev, callF, preF, hasF, needs, i0, b0, toI_int, toB_bool, List.getD_cons_zero, List.getD_cons_succ, List.cons_append, List.nil_append, List.replicate, if_true, if_false, Bool.false_eq_true, and_true, true_and, implies_true, forall_const, false_implies, cmpI, Bool.not_true, Bool.not_false, Bool.true_and, Bool.false_and, Bool.and_true, Bool.and_false, reduceIte, List.append_nil, reduceCtorEq]
    simp [fr4, zq]
  · cases k : validI x y z
    · simp only [F_l2SumP, G_l2SumP, tr_l2SumP, Fs_l2SumP, G_sFracValid, G_l2Low, addQ, validQ, q3, arI, h, k, ofTree, okT, okE, evalT, evalE, evsIn, ev, callF, preF, hasF, needs, i0, b0, toI_int, toB_bool, List.getD_cons_zero, List.getD_cons_succ, List.cons_append, List.nil_append, List.replicate, if_true, if_false, Bool.false_eq_true, and_true, true_and, implies_true, forall_const, false_implies, cmpI, Bool.not_true, Bool.not_false, Bool.true_and, Bool.false_and, Bool.and_true, Bool.and_false, reduceIte, List.append_nil, reduceCtorEq]
      simp [fr4, zq]
    · obtain ⟨e1, e2, e3, e4, e5, e6, e7, e8, e9, l1, l2⟩ := sum_facts h k
      obtain ⟨k1, k2, _⟩ := valid_bounds k
      have u1 : IntKind.i64.wrap (1 * x) = x := by rw [Int.one_mul]; exact wrap_in (by omega)
      have u2 : IntKind.i64.wrap (1 * y) = y := by rw [Int.one_mul]; exact wrap_in (by omega)
      simp only [F_l2SumP, G_l2SumP, tr_l2SumP, Fs_l2SumP, G_sFracValid, G_l2Low, addQ, validQ, q3, arI, h, k, u1, u2, e1, e2, e3, e4, e5, e6, e7, ofTree, okT, okE, evalT, evalE, evsIn, ev, callF, preF, hasF, needs, i0, b0, toI_int, toB_bool, List.getD_cons_zero, List.getD_cons_succ, List.cons_append, List.nil_append, List.replicate, if_true, if_false, Bool.false_eq_true, and_true, true_and, implies_true, forall_const, false_implies, cmpI, Bool.not_true, Bool.not_false, Bool.true_and, Bool.false_and, Bool.and_true, Bool.and_false, reduceIte, List.append_nil, reduceCtorEq]
      simp [fr4, l1]

def tr_l2SumM : Tr :=
  (.evs [.call 0 [(.var 0), (.var 1), (.var 2)] none 1,
    .call 0 [(.var 3), (.var 4), (.var 5)] (some (.not (.not (.var 6)))) 1]
  (.ite (.ite (.not (.var 6)) (.bool true) (.not (.var 7)))
  (.ret [(.int .i64 0), (.int .i64 0), (.int .i64 0), (.bool false)])
  (.evs [.call 1 [(.ar .add .i64 (.ar .mul .i64 (.var 0) (.var 5)) (.ar .mul .i64 (.ar .mul .i64 (.int .i64 (-1)) (.var 3)) (.var 2))), (.ar .add .i64 (.ar .mul .i64 (.var 1) (.var 5)) (.ar .mul .i64 (.ar .mul .i64 (.int .i64 (-1)) (.var 4)) (.var 2))), (.ar .mul .i64 (.var 2) (.var 5))] none 4]
   (.ret [(.var 8), (.var 9), (.var 10), (.var 11)]))))
def Fs_l2SumM : List Fun1 := [G_sFracValid, G_l2Low]
def F_l2SumM : Fun1 := ofTree Fs_l2SumM tr_l2SumM
def G_l2SumM : Fun1 := ⟨fun _ => True, fun ins => fr4 (lessQ (q3 ins 0) (q3 ins 3))⟩
theorem as_l2SumM (ins : List Value) (ht : TypedL [.int .i64, .int .i64, .int .i64, .int .i64, .int .i64, .int .i64] ins) (_ : G_l2SumM.pre ins) : F_l2SumM.pre ins ∧ F_l2SumM.out ins = G_l2SumM.out ins := by
  obtain ⟨a, b, c, x, y, z, rfl, _⟩ := ints6 ht
  cases h : validI a b c
  · simp only [F_l2SumM, G_l2SumM, tr_l2SumM, Fs_l2SumM, G_sFracValid, G_l2Low, lessQ, validQ, q3, arI, h, ofTree, okT, okE, evalT, evalE, evsIn, ev, callF, preF, hasF, needs, i0, b0, toI_int, toB_bool, List.getD_cons_zero, List.getD_cons_succ, List.cons_append, List.nil_append, List.replicate, if_true, if_false, Bool.false_eq_true, and_true, true_and, implies_true, forall_const, false_implies, cmpI, Bool.not_true, Bool.not_false, Bool.true_and, Bool.false_and, Bool.and_true, Bool.and_false, reduceIte, List.append_nil, reduceCtorEq]
    simp [fr4, zq]
  · cases k : validI x y z
    · simp only [F_l2SumM, G_l2SumM, tr_l2SumM, Fs_l2SumM, G_sFracValid, G_l2Low, lessQ, validQ, q3, arI, h, k, ofTree, okT, okE, evalT, evalE, evsIn, ev, callF, preF, hasF, needs, i0, b0, toI_int, toB_bool, List.getD_cons_zero, List.getD_cons_succ, List.cons_append, List.nil_append, List.replicate, if_true, if_false, Bool.false_eq_true, and_true, true_and, implies_true, forall_const, false_implies, cmpI, Bool.not_true, Bool.not_false, Bool.true_and, Bool.false_and, Bool.and_true, Bool.and_false, reduceIte, List.append_nil, reduceCtorEq]
      simp [fr4, zq]
    · obtain ⟨e1, e2, e3, e4, e5, e6, e7, e8, e9, l1, l2⟩ := sum_facts h k
      obtain ⟨k1, k2, _⟩ := valid_bounds k
      have u1 : IntKind.i64.wrap (-1 * x) = -x := by rw [Int.neg_one_mul]; exact wrap_in (by omega)
      have u2 : IntKind.i64.wrap (-1 * y) = -y := by rw [Int.neg_one_mul]; exact wrap_in (by omega)
      have m2 := mulB k1 (b := c) (by have := valid_bounds h; omega)
      have m4 := mulB k2 (b := c) (by have := valid_bounds h; omega)
      have v1 : IntKind.i64.wrap (-x * c) = -(x * c) := by rw [Int.neg_mul]; exact wrap_in (by omega)
      have v2 : IntKind.i64.wrap (-y * c) = -(y * c) := by rw [Int.neg_mul]; exact wrap_in (by omega)
      have v3 : IntKind.i64.wrap (a * z + -(x * c)) = a * z - x * c := by rw [← Int.sub_eq_add_neg]; exact e8
      have v4 : IntKind.i64.wrap (b * z + -(y * c)) = b * z - y * c := by rw [← Int.sub_eq_add_neg]; exact e9
      simp only [F_l2SumM, G_l2SumM, tr_l2SumM, Fs_l2SumM, G_sFracValid, G_l2Low, lessQ, validQ, q3, arI, h, k, u1, u2, v1, v2, v3, v4, e1, e3, e5, ofTree, okT, okE, evalT, evalE, evsIn, ev, callF, preF, hasF, needs, i0, b0, toI_int, toB_bool, List.getD_cons_zero, List.getD_cons_succ, List.cons_append, List.nil_append, List.replicate, if_true, if_false, Bool.false_eq_true, and_true, true_and, implies_true, forall_const, false_implies, cmpI, Bool.not_true, Bool.not_false, Bool.true_and, Bool.false_and, Bool.and_true, Bool.and_false, reduceIte, List.append_nil, reduceCtorEq]
      simp [fr4, l2]

def tr_l6tAddP : Tr :=
  (.evs [.call 0 [(.var 0), (.var 1), (.var 2), (.var 3), (.var 4), (.var 5)] none 4]
  (.ret [(.var 7), (.var 8), (.var 9), (.ite (.var 6) (.var 10) (.bool false))]))
def Fs_l6tAddP : List Fun1 := [G_l2SumP]
def F_l6tAddP : Fun1 := ofTree Fs_l6tAddP tr_l6tAddP
def G_l6tAddP : Fun1 := ⟨fun _ => True, fun ins => fr3 (addQ (q3 ins 0) (q3 ins 3)) ++ [.bool (b0 ins 6 && (addQ (q3 ins 0) (q3 ins 3)).isSome)]⟩
theorem as_l6tAddP (ins : List Value) (ht : TypedL [.int .i64, .int .i64, .int .i64, .int .i64, .int .i64, .int .i64, .bool] ins) (_ : G_l6tAddP.pre ins) : F_l6tAddP.pre ins ∧ F_l6tAddP.out ins = G_l6tAddP.out ins := by
  obtain ⟨a, r1, rfl, _, ht1⟩ := int_cons ht
  obtain ⟨b, r2, rfl, _, ht2⟩ := int_cons ht1
  obtain ⟨c, r3, rfl, _, ht3⟩ := int_cons ht2
  obtain ⟨x, r4, rfl, _, ht4⟩ := int_cons ht3
  obtain ⟨y, r5, rfl, _, ht5⟩ := int_cons ht4
  obtain ⟨z, r6, rfl, _, ht6⟩ := int_cons ht5
  obtain ⟨t, r7, rfl, ht7⟩ := bool_cons ht6
  obtain rfl := ints0 ht7
  simp only [F_l6tAddP, G_l6tAddP, tr_l6tAddP, Fs_l6tAddP, G_l2SumP, q3, fr4, fr3, ofTree, okT, okE, evalT, evalE, evsIn, ev, callF, preF, hasF, needs, i0, b0, toI_int, toB_bool, List.getD_cons_zero, List.getD_cons_succ, List.cons_append, List.nil_append, List.replicate, if_true, if_false, Bool.false_eq_true, and_true, true_and, implies_true, forall_const, false_implies, cmpI, Bool.not_true, Bool.not_false, Bool.true_and, Bool.false_and, Bool.and_true, Bool.and_false, reduceIte, List.append_nil, reduceCtorEq]
  cases t <;> simp

def tr_l6tAddM : Tr :=
  (.evs [.call 0 [(.var 0), (.var 1), (.var 2), (.var 3), (.var 4), (.var 5)] none 4]
  (.ret [(.var 7), (.var 8), (.var 9), (.ite (.var 6) (.var 10) (.bool false))]))
def Fs_l6tAddM : List Fun1 := [G_l2SumM]
def F_l6tAddM : Fun1 := ofTree Fs_l6tAddM tr_l6tAddM
def G_l6tAddM : Fun1 := ⟨fun _ => True, fun ins => fr3 (lessQ (q3 ins 0) (q3 ins 3)) ++ [.bool (b0 ins 6 && (lessQ (q3 ins 0) (q3 ins 3)).isSome)]⟩
theorem as_l6tAddM (ins : List Value) (ht : TypedL [.int .i64, .int .i64, .int .i64, .int .i64, .int .i64, .int .i64, .bool] ins) (_ : G_l6tAddM.pre ins) : F_l6tAddM.pre ins ∧ F_l6tAddM.out ins = G_l6tAddM.out ins := by
  obtain ⟨a, r1, rfl, _, ht1⟩ := int_cons ht
  obtain ⟨b, r2, rfl, _, ht2⟩ := int_cons ht1
  obtain ⟨c, r3, rfl, _, ht3⟩ := int_cons ht2
  obtain ⟨x, r4, rfl, _, ht4⟩ := int_cons ht3
  obtain ⟨y, r5, rfl, _, ht5⟩ := int_cons ht4
  obtain ⟨z, r6, rfl, _, ht6⟩ := int_cons ht5
  obtain ⟨t, r7, rfl, ht7⟩ := bool_cons ht6
  obtain rfl := ints0 ht7
  simp only [F_l6tAddM, G_l6tAddM, tr_l6tAddM, Fs_l6tAddM, G_l2SumM, q3, fr4, fr3, ofTree, okT, okE, evalT, evalE, evsIn, ev, callF, preF, hasF, needs, i0, b0, toI_int, toB_bool, List.getD_cons_zero, List.getD_cons_succ, List.cons_append, List.nil_append, List.replicate, if_true, if_false, Bool.false_eq_true, and_true, true_and, implies_true, forall_const, false_implies, cmpI, Bool.not_true, Bool.not_false, Bool.true_and, Bool.false_and, Bool.and_true, Bool.and_false, reduceIte, List.append_nil, reduceCtorEq]
  cases t <;> simp

def tr_l6tPair : Tr :=
  (.evs [.call 0 [(.var 3), (.var 4), (.var 5)] none 4]
  (.evs [.call 1 [(.var 0), (.var 1), (.var 2), (.var 7), (.var 8), (.var 9)] none 4]
  (.ret [(.var 11), (.var 12), (.var 13), (.ite (.ite (.var 6) (.var 10) (.bool false)) (.var 14) (.bool false))])))
def Fs_l6tPair : List Fun1 := [G_sFracMirror, G_sFracTimes]
def F_l6tPair : Fun1 := ofTree Fs_l6tPair tr_l6tPair
def G_l6tPair : Fun1 := ⟨fun _ => True, fun ins => fr3 (pairQ (q3 ins 0) (q3 ins 3)) ++ [.bool (b0 ins 6 && (pairQ (q3 ins 0) (q3 ins 3)).isSome)]⟩
theorem as_l6tPair (ins : List Value) (ht : TypedL [.int .i64, .int .i64, .int .i64, .int .i64, .int .i64, .int .i64, .bool] ins) (_ : G_l6tPair.pre ins) : F_l6tPair.pre ins ∧ F_l6tPair.out ins = G_l6tPair.out ins := by
  obtain ⟨a, r1, rfl, _, ht1⟩ := int_cons ht
  obtain ⟨b, r2, rfl, _, ht2⟩ := int_cons ht1
  obtain ⟨c, r3, rfl, _, ht3⟩ := int_cons ht2
  obtain ⟨x, r4, rfl, _, ht4⟩ := int_cons ht3
  obtain ⟨y, r5, rfl, _, ht5⟩ := int_cons ht4
  obtain ⟨z, r6, rfl, _, ht6⟩ := int_cons ht5
  obtain ⟨t, r7, rfl, ht7⟩ := bool_cons ht6
  obtain rfl := ints0 ht7
  simp only [F_l6tPair, G_l6tPair, tr_l6tPair, Fs_l6tPair, G_sFracMirror, G_sFracTimes, pairQ, q3, fr3, fr4, ofTree, okT, okE, evalT, evalE, evsIn, ev, callF, preF, hasF, needs, i0, b0, toI_int, toB_bool, List.getD_cons_zero, List.getD_cons_succ, List.cons_append, List.nil_append, List.replicate, if_true, if_false, Bool.false_eq_true, and_true, true_and, implies_true, forall_const, false_implies, cmpI, Bool.not_true, Bool.not_false, Bool.true_and, Bool.false_and, Bool.and_true, Bool.and_false, reduceIte, List.append_nil, reduceCtorEq]
  cases h : mirQ (x, y, z)
  · cases t <;> simp [zq, show timesQ (a, b, c) (0, 0, 0) = none from times_zq' _]
  · cases t <;> simp

def tr_l6tPart20 : Tr :=
  (.evs [.call 0 [(.var 0), (.int .i64 0), (.ar .mul .i64 (.mx false .i64 (.int .i64 1) (.var 2)) (.int .i64 2))] none 4]
  (.ret [(.var 4), (.var 5), (.var 6), (.ite (.var 3) (.var 7) (.bool false))]))
def Fs_l6tPart20 : List Fun1 := [G_sFracMake]
def F_l6tPart20 : Fun1 := ofTree Fs_l6tPart20 tr_l6tPart20
def G_l6tPart20 : Fun1 := ⟨fun _ => True, fun ins => fr3 (partP (q3 ins 0)) ++ [.bool (b0 ins 3 && (partP (q3 ins 0)).isSome)]⟩
theorem as_l6tPart20 (ins : List Value) (ht : TypedL [.int .i64, .int .i64, .int .i64, .bool] ins) (_ : G_l6tPart20.pre ins) : F_l6tPart20.pre ins ∧ F_l6tPart20.out ins = G_l6tPart20.out ins := by
  obtain ⟨a, r1, rfl, _, ht1⟩ := int_cons ht
  obtain ⟨b, r2, rfl, _, ht2⟩ := int_cons ht1
  obtain ⟨c, r3, rfl, _, ht3⟩ := int_cons ht2
  obtain ⟨t, r7, rfl, ht7⟩ := bool_cons ht3
  obtain rfl := ints0 ht7
  simp only [F_l6tPart20, G_l6tPart20, tr_l6tPart20, Fs_l6tPart20, G_sFracMake, partP, q3, fr4, fr3, arI, ofTree, okT, okE, evalT, evalE, evsIn, ev, callF, preF, hasF, needs, i0, b0, toI_int, toB_bool, List.getD_cons_zero, List.getD_cons_succ, List.cons_append, List.nil_append, List.replicate, if_true, if_false, Bool.false_eq_true, and_true, true_and, implies_true, forall_const, false_implies, cmpI, Bool.not_true, Bool.not_false, Bool.true_and, Bool.false_and, Bool.and_true, Bool.and_false, reduceIte, List.append_nil, reduceCtorEq]
  cases t <;> simp

def tr_l6tPart10 : Tr :=
  (.evs [.call 0 [(.var 0), (.int .i64 0), (.ar .mul .i64 (.mx false .i64 (.int .i64 1) (.var 2)) (.int .i64 1))] none 4]
  (.ret [(.var 4), (.var 5), (.var 6), (.ite (.var 3) (.var 7) (.bool false))]))
def Fs_l6tPart10 : List Fun1 := [G_sFracMake]
def F_l6tPart10 : Fun1 := ofTree Fs_l6tPart10 tr_l6tPart10
def G_l6tPart10 : Fun1 := ⟨fun _ => True, fun ins => fr3 (partR (q3 ins 0)) ++ [.bool (b0 ins 3 && (partR (q3 ins 0)).isSome)]⟩
theorem as_l6tPart10 (ins : List Value) (ht : TypedL [.int .i64, .int .i64, .int .i64, .bool] ins) (_ : G_l6tPart10.pre ins) : F_l6tPart10.pre ins ∧ F_l6tPart10.out ins = G_l6tPart10.out ins := by
  obtain ⟨a, r1, rfl, _, ht1⟩ := int_cons ht
  obtain ⟨b, r2, rfl, _, ht2⟩ := int_cons ht1
  obtain ⟨c, r3, rfl, _, ht3⟩ := int_cons ht2
  obtain ⟨t, r7, rfl, ht7⟩ := bool_cons ht3
  obtain rfl := ints0 ht7
  simp only [F_l6tPart10, G_l6tPart10, tr_l6tPart10, Fs_l6tPart10, G_sFracMake, partR, q3, fr4, fr3, arI, ofTree, okT, okE, evalT, evalE, evsIn, ev, callF, preF, hasF, needs, i0, b0, toI_int, toB_bool, List.getD_cons_zero, List.getD_cons_succ, List.cons_append, List.nil_append, List.replicate, if_true, if_false, Bool.false_eq_true, and_true, true_and, implies_true, forall_const, false_implies, cmpI, Bool.not_true, Bool.not_false, Bool.true_and, Bool.false_and, Bool.and_true, Bool.and_false, reduceIte, List.append_nil, reduceCtorEq]
  cases t <;> simp

def tr_l6tPart11 : Tr :=
  (.evs [.call 0 [(.var 1), (.int .i64 0), (.ar .mul .i64 (.mx false .i64 (.int .i64 1) (.var 2)) (.int .i64 1))] none 4]
  (.ret [(.var 4), (.var 5), (.var 6), (.ite (.var 3) (.var 7) (.bool false))]))
def Fs_l6tPart11 : List Fun1 := [G_sFracMake]
def F_l6tPart11 : Fun1 := ofTree Fs_l6tPart11 tr_l6tPart11
def G_l6tPart11 : Fun1 := ⟨fun _ => True, fun ins => fr3 (partI (q3 ins 0)) ++ [.bool (b0 ins 3 && (partI (q3 ins 0)).isSome)]⟩
theorem as_l6tPart11 (ins : List Value) (ht : TypedL [.int .i64, .int .i64, .int .i64, .bool] ins) (_ : G_l6tPart11.pre ins) : F_l6tPart11.pre ins ∧ F_l6tPart11.out ins = G_l6tPart11.out ins := by
  obtain ⟨a, r1, rfl, _, ht1⟩ := int_cons ht
  obtain ⟨b, r2, rfl, _, ht2⟩ := int_cons ht1
  obtain ⟨c, r3, rfl, _, ht3⟩ := int_cons ht2
  obtain ⟨t, r7, rfl, ht7⟩ := bool_cons ht3
  obtain rfl := ints0 ht7
  simp only [F_l6tPart11, G_l6tPart11, tr_l6tPart11, Fs_l6tPart11, G_sFracMake, partI, q3, fr4, fr3, arI, ofTree, okT, okE, evalT, evalE, evsIn, ev, callF, preF, hasF, needs, i0, b0, toI_int, toB_bool, List.getD_cons_zero, List.getD_cons_succ, List.cons_append, List.nil_append, List.replicate, if_true, if_false, Bool.false_eq_true, and_true, true_and, implies_true, forall_const, false_implies, cmpI, Bool.not_true, Bool.not_false, Bool.true_and, Bool.false_and, Bool.and_true, Bool.and_false, reduceIte, List.append_nil, reduceCtorEq]
  cases t <;> simp

def tr_l6tPowersA : Tr :=
  (.evs [.call 0 [(.var 0), (.var 1), (.var 2), (.var 0), (.var 1), (.var 2), (.var 12)] none 4]
  (.evs [.call 0 [(.var 3), (.var 4), (.var 5), (.var 3), (.var 4), (.var 5), (.var 16)] none 4,
    .call 1 [(.var 13), (.var 14), (.var 15), (.var 17), (.var 18), (.var 19), (.var 20)] none 4]
  (.evs [.call 0 [(.var 6), (.var 7), (.var 8), (.var 6), (.var 7), (.var 8), (.var 24)] none 4,
    .call 1 [(.var 21), (.var 22), (.var 23), (.var 25), (.var 26), (.var 27), (.var 28)] none 4]
  (.evs [.call 0 [(.var 9), (.var 10), (.var 11), (.var 9), (.var 10), (.var 11), (.var 32)] none 4,
    .call 1 [(.var 29), (.var 30), (.var 31), (.var 33), (.var 34), (.var 35), (.var 36)] none 4]
  (.evs [.call 3 [(.var 37), (.var 38), (.var 39), (.var 40)] none 4]
  (.ret [(.var 41), (.var 42), (.var 43), (.var 44)]))))))
def Fs_l6tPowersA : List Fun1 := [G_l6tPair, G_l6tAddP, G_l6tAddM, G_l6tPart20]
def F_l6tPowersA : Fun1 := ofTree Fs_l6tPowersA tr_l6tPowersA

def tr_l6tPowersB : Tr :=
  (.evs [.call 0 [(.var 0), (.var 1), (.var 2), (.var 0), (.var 1), (.var 2), (.var 12)] none 4]
  (.evs [.call 0 [(.var 3), (.var 4), (.var 5), (.var 3), (.var 4), (.var 5), (.var 16)] none 4,
    .call 2 [(.var 13), (.var 14), (.var 15), (.var 17), (.var 18), (.var 19), (.var 20)] none 4]
  (.evs [.call 0 [(.var 6), (.var 7), (.var 8), (.var 6), (.var 7), (.var 8), (.var 24)] none 4,
    .call 1 [(.var 21), (.var 22), (.var 23), (.var 25), (.var 26), (.var 27), (.var 28)] none 4]
  (.evs [.call 0 [(.var 9), (.var 10), (.var 11), (.var 9), (.var 10), (.var 11), (.var 32)] none 4,
    .call 2 [(.var 29), (.var 30), (.var 31), (.var 33), (.var 34), (.var 35), (.var 36)] none 4]
  (.evs [.call 3 [(.var 37), (.var 38), (.var 39), (.var 40)] none 4]
  (.ret [(.var 41), (.var 42), (.var 43), (.var 44)]))))))
def Fs_l6tPowersB : List Fun1 := [G_l6tPair, G_l6tAddP, G_l6tAddM, G_l6tPart20]
def F_l6tPowersB : Fun1 := ofTree Fs_l6tPowersB tr_l6tPowersB

def tr_l6tPowersC : Tr :=
  (.evs [.call 0 [(.var 0), (.var 1), (.var 2), (.var 0), (.var 1), (.var 2), (.var 12)] none 4]
  (.evs [.call 0 [(.var 3), (.var 4), (.var 5), (.var 3), (.var 4), (.var 5), (.var 16)] none 4,
    .call 1 [(.var 13), (.var 14), (.var 15), (.var 17), (.var 18), (.var 19), (.var 20)] none 4]
  (.evs [.call 0 [(.var 6), (.var 7), (.var 8), (.var 6), (.var 7), (.var 8), (.var 24)] none 4,
    .call 2 [(.var 21), (.var 22), (.var 23), (.var 25), (.var 26), (.var 27), (.var 28)] none 4]
  (.evs [.call 0 [(.var 9), (.var 10), (.var 11), (.var 9), (.var 10), (.var 11), (.var 32)] none 4,
    .call 2 [(.var 29), (.var 30), (.var 31), (.var 33), (.var 34), (.var 35), (.var 36)] none 4]
  (.evs [.call 3 [(.var 37), (.var 38), (.var 39), (.var 40)] none 4]
  (.ret [(.var 41), (.var 42), (.var 43), (.var 44)]))))))
def Fs_l6tPowersC : List Fun1 := [G_l6tPair, G_l6tAddP, G_l6tAddM, G_l6tPart20]
def F_l6tPowersC : Fun1 := ofTree Fs_l6tPowersC tr_l6tPowersC

def tr_l6tPowersD : Tr :=
  (.evs [.call 0 [(.var 0), (.var 1), (.var 2), (.var 0), (.var 1), (.var 2), (.var 12)] none 4]
  (.evs [.call 0 [(.var 3), (.var 4), (.var 5), (.var 3), (.var 4), (.var 5), (.var 16)] none 4,
    .call 2 [(.var 13), (.var 14), (.var 15), (.var 17), (.var 18), (.var 19), (.var 20)] none 4]
  (.evs [.call 0 [(.var 6), (.var 7), (.var 8), (.var 6), (.var 7), (.var 8), (.var 24)] none 4,
    .call 2 [(.var 21), (.var 22), (.var 23), (.var 25), (.var 26), (.var 27), (.var 28)] none 4]
  (.evs [.call 0 [(.var 9), (.var 10), (.var 11), (.var 9), (.var 10), (.var 11), (.var 32)] none 4,
    .call 1 [(.var 29), (.var 30), (.var 31), (.var 33), (.var 34), (.var 35), (.var 36)] none 4]
  (.evs [.call 3 [(.var 37), (.var 38), (.var 39), (.var 40)] none 4]
  (.ret [(.var 41), (.var 42), (.var 43), (.var 44)]))))))
def Fs_l6tPowersD : List Fun1 := [G_l6tPair, G_l6tAddP, G_l6tAddM, G_l6tPart20]
def F_l6tPowersD : Fun1 := ofTree Fs_l6tPowersD tr_l6tPowersD

def tr_l6tTwo2 : Tr :=
  (.evs [.call 0 [(.var 0), (.var 1), (.var 2), (.var 3), (.var 4), (.var 5), (.var 12)] none 4]
  (.evs [.call 0 [(.var 6), (.var 7), (.var 8), (.var 9), (.var 10), (.var 11), (.var 16)] none 4]
  (.evs [.call 1 [(.var 13), (.var 14), (.var 15), (.var 17), (.var 18), (.var 19), (.var 20)] none 4,
    .call 2 [(.var 21), (.var 22), (.var 23), (.var 24)] none 4]
  (.ret [(.var 25), (.var 26), (.var 27), (.var 28)]))))
def Fs_l6tTwo2 : List Fun1 := [G_l6tPair, G_l6tAddP, G_l6tPart10]
def F_l6tTwo2 : Fun1 := ofTree Fs_l6tTwo2 tr_l6tTwo2

def tr_l6tTwo3 : Tr :=
  (.evs [.call 0 [(.var 3), (.var 4), (.var 5), (.var 0), (.var 1), (.var 2), (.var 12)] none 4]
  (.evs [.call 0 [(.var 9), (.var 10), (.var 11), (.var 6), (.var 7), (.var 8), (.var 16)] none 4]
  (.evs [.call 1 [(.var 13), (.var 14), (.var 15), (.var 17), (.var 18), (.var 19), (.var 20)] none 4,
    .call 2 [(.var 21), (.var 22), (.var 23), (.var 24)] none 4]
  (.ret [(.var 25), (.var 26), (.var 27), (.var 28)]))))
def Fs_l6tTwo3 : List Fun1 := [G_l6tPair, G_l6tAddP, G_l6tPart11]
def F_l6tTwo3 : Fun1 := ofTree Fs_l6tTwo3 tr_l6tTwo3

def tr_l6tTwo6 : Tr :=
  (.evs [.call 0 [(.var 0), (.var 1), (.var 2), (.var 3), (.var 4), (.var 5), (.var 12)] none 4]
  (.evs [.call 0 [(.var 6), (.var 7), (.var 8), (.var 9), (.var 10), (.var 11), (.var 16)] none 4]
  (.evs [.call 1 [(.var 13), (.var 14), (.var 15), (.var 17), (.var 18), (.var 19), (.var 20)] none 4,
    .call 2 [(.var 21), (.var 22), (.var 23), (.var 24)] none 4]
  (.ret [(.var 25), (.var 26), (.var 27), (.var 28)]))))
def Fs_l6tTwo6 : List Fun1 := [G_l6tPair, G_l6tAddM, G_l6tPart10]
def F_l6tTwo6 : Fun1 := ofTree Fs_l6tTwo6 tr_l6tTwo6

def tr_l6tTwo7 : Tr :=
  (.evs [.call 0 [(.var 3), (.var 4), (.var 5), (.var 0), (.var 1), (.var 2), (.var 12)] none 4]
  (.evs [.call 0 [(.var 9), (.var 10), (.var 11), (.var 6), (.var 7), (.var 8), (.var 16)] none 4]
  (.evs [.call 1 [(.var 13), (.var 14), (.var 15), (.var 17), (.var 18), (.var 19), (.var 20)] none 4,
    .call 2 [(.var 21), (.var 22), (.var 23), (.var 24)] none 4]
  (.ret [(.var 25), (.var 26), (.var 27), (.var 28)]))))
def Fs_l6tTwo7 : List Fun1 := [G_l6tPair, G_l6tAddM, G_l6tPart11]
def F_l6tTwo7 : Fun1 := ofTree Fs_l6tTwo7 tr_l6tTwo7

def tr_l6tTwo8 : Tr :=
  (.evs [.call 0 [(.var 0), (.var 1), (.var 2), (.var 6), (.var 7), (.var 8), (.var 12)] none 4]
  (.evs [.call 0 [(.var 3), (.var 4), (.var 5), (.var 9), (.var 10), (.var 11), (.var 16)] none 4]
  (.evs [.call 1 [(.var 13), (.var 14), (.var 15), (.var 17), (.var 18), (.var 19), (.var 20)] none 4,
    .call 2 [(.var 21), (.var 22), (.var 23), (.var 24)] none 4]
  (.ret [(.var 25), (.var 26), (.var 27), (.var 28)]))))
def Fs_l6tTwo8 : List Fun1 := [G_l6tPair, G_l6tAddP, G_l6tPart10]
def F_l6tTwo8 : Fun1 := ofTree Fs_l6tTwo8 tr_l6tTwo8

def tr_l6tTwo9 : Tr :=
  (.evs [.call 0 [(.var 0), (.var 1), (.var 2), (.var 6), (.var 7), (.var 8), (.var 12)] none 4]
  (.evs [.call 0 [(.var 3), (.var 4), (.var 5), (.var 9), (.var 10), (.var 11), (.var 16)] none 4]
  (.evs [.call 1 [(.var 13), (.var 14), (.var 15), (.var 17), (.var 18), (.var 19), (.var 20)] none 4,
    .call 2 [(.var 21), (.var 22), (.var 23), (.var 24)] none 4]
  (.ret [(.var 25), (.var 26), (.var 27), (.var 28)]))))
def Fs_l6tTwo9 : List Fun1 := [G_l6tPair, G_l6tAddM, G_l6tPart10]
def F_l6tTwo9 : Fun1 := ofTree Fs_l6tTwo9 tr_l6tTwo9

def tr_l6tTwo10 : Tr :=
  (.evs [.call 0 [(.var 0), (.var 1), (.var 2), (.var 9), (.var 10), (.var 11), (.var 12)] none 4]
  (.evs [.call 0 [(.var 3), (.var 4), (.var 5), (.var 6), (.var 7), (.var 8), (.var 16)] none 4]
  (.evs [.call 1 [(.var 13), (.var 14), (.var 15), (.var 17), (.var 18), (.var 19), (.var 20)] none 4,
    .call 2 [(.var 21), (.var 22), (.var 23), (.var 24)] none 4]
  (.ret [(.var 25), (.var 26), (.var 27), (.var 28)]))))
def Fs_l6tTwo10 : List Fun1 := [G_l6tPair, G_l6tAddP, G_l6tPart10]
def F_l6tTwo10 : Fun1 := ofTree Fs_l6tTwo10 tr_l6tTwo10

def tr_l6tTwo11 : Tr :=
  (.evs [.call 0 [(.var 3), (.var 4), (.var 5), (.var 6), (.var 7), (.var 8), (.var 12)] none 4]
  (.evs [.call 0 [(.var 0), (.var 1), (.var 2), (.var 9), (.var 10), (.var 11), (.var 16)] none 4]
  (.evs [.call 1 [(.var 13), (.var 14), (.var 15), (.var 17), (.var 18), (.var 19), (.var 20)] none 4,
    .call 2 [(.var 21), (.var 22), (.var 23), (.var 24)] none 4]
  (.ret [(.var 25), (.var 26), (.var 27), (.var 28)]))))
def Fs_l6tTwo11 : List Fun1 := [G_l6tPair, G_l6tAddM, G_l6tPart11]
def F_l6tTwo11 : Fun1 := ofTree Fs_l6tTwo11 tr_l6tTwo11

def tr_l6tTwo12 : Tr :=
  (.evs [.call 0 [(.var 0), (.var 1), (.var 2), (.var 6), (.var 7), (.var 8), (.var 12)] none 4]
  (.evs [.call 0 [(.var 3), (.var 4), (.var 5), (.var 9), (.var 10), (.var 11), (.var 16)] none 4]
  (.evs [.call 1 [(.var 13), (.var 14), (.var 15), (.var 17), (.var 18), (.var 19), (.var 20)] none 4,
    .call 2 [(.var 21), (.var 22), (.var 23), (.var 24)] none 4]
  (.ret [(.var 25), (.var 26), (.var 27), (.var 28)]))))
def Fs_l6tTwo12 : List Fun1 := [G_l6tPair, G_l6tAddP, G_l6tPart11]
def F_l6tTwo12 : Fun1 := ofTree Fs_l6tTwo12 tr_l6tTwo12

def tr_l6tTwo13 : Tr :=
  (.evs [.call 0 [(.var 0), (.var 1), (.var 2), (.var 6), (.var 7), (.var 8), (.var 12)] none 4]
  (.evs [.call 0 [(.var 3), (.var 4), (.var 5), (.var 9), (.var 10), (.var 11), (.var 16)] none 4]
  (.evs [.call 1 [(.var 13), (.var 14), (.var 15), (.var 17), (.var 18), (.var 19), (.var 20)] none 4,
    .call 2 [(.var 21), (.var 22), (.var 23), (.var 24)] none 4]
  (.ret [(.var 25), (.var 26), (.var 27), (.var 28)]))))
def Fs_l6tTwo13 : List Fun1 := [G_l6tPair, G_l6tAddM, G_l6tPart11]
def F_l6tTwo13 : Fun1 := ofTree Fs_l6tTwo13 tr_l6tTwo13

def tr_l6tTwo14 : Tr :=
  (.evs [.call 0 [(.var 0), (.var 1), (.var 2), (.var 9), (.var 10), (.var 11), (.var 12)] none 4]
  (.evs [.call 0 [(.var 3), (.var 4), (.var 5), (.var 6), (.var 7), (.var 8), (.var 16)] none 4]
  (.evs [.call 1 [(.var 13), (.var 14), (.var 15), (.var 17), (.var 18), (.var 19), (.var 20)] none 4,
    .call 2 [(.var 21), (.var 22), (.var 23), (.var 24)] none 4]
  (.ret [(.var 25), (.var 26), (.var 27), (.var 28)]))))
def Fs_l6tTwo14 : List Fun1 := [G_l6tPair, G_l6tAddP, G_l6tPart11]
def F_l6tTwo14 : Fun1 := ofTree Fs_l6tTwo14 tr_l6tTwo14

def tr_l6tTwo15 : Tr :=
  (.evs [.call 0 [(.var 0), (.var 1), (.var 2), (.var 9), (.var 10), (.var 11), (.var 12)] none 4]
  (.evs [.call 0 [(.var 3), (.var 4), (.var 5), (.var 6), (.var 7), (.var 8), (.var 16)] none 4]
  (.evs [.call 1 [(.var 13), (.var 14), (.var 15), (.var 17), (.var 18), (.var 19), (.var 20)] none 4,
    .call 2 [(.var 21), (.var 22), (.var 23), (.var 24)] none 4]
  (.ret [(.var 25), (.var 26), (.var 27), (.var 28)]))))
def Fs_l6tTwo15 : List Fun1 := [G_l6tPair, G_l6tAddM, G_l6tPart10]
def F_l6tTwo15 : Fun1 := ofTree Fs_l6tTwo15 tr_l6tTwo15

def tr_sTableOf : Tr :=
  (.evs [.call 0 [(.var 0), (.var 1), (.var 2), (.var 3), (.var 4), (.var 5), (.var 6), (.var 7), (.var 8), (.var 9), (.var 10), (.var 11)] none 1]
  (.ite (.not (.var 12))
  (.ret [(.int .i64 0), (.int .i64 0), (.int .i64 0), (.int .i64 0), (.int .i64 0), (.int .i64 0), (.int .i64 0), (.int .i64 0), (.int .i64 0), (.int .i64 0), (.int .i64 0), (.int .i64 0), (.int .i64 0), (.int .i64 0), (.int .i64 0), (.int .i64 0), (.int .i64 0), (.int .i64 0), (.int .i64 0), (.int .i64 0), (.int .i64 0), (.int .i64 0), (.int .i64 0), (.int .i64 0), (.int .i64 0), (.int .i64 0), (.int .i64 0), (.int .i64 0), (.int .i64 0), (.int .i64 0), (.int .i64 0), (.int .i64 0), (.int .i64 0), (.int .i64 0), (.int .i64 0), (.int .i64 0), (.int .i64 0), (.int .i64 0), (.int .i64 0), (.int .i64 0), (.int .i64 0), (.int .i64 0), (.int .i64 0), (.int .i64 0), (.int .i64 0), (.int .i64 0), (.int .i64 0), (.int .i64 0), (.bool false)])
  (.evs [.call 1 [(.var 0), (.var 1), (.var 2), (.var 3), (.var 4), (.var 5), (.var 6), (.var 7), (.var 8), (.var 9), (.var 10), (.var 11), (.var 12)] none 4]
   (.evs [.call 2 [(.var 0), (.var 1), (.var 2), (.var 3), (.var 4), (.var 5), (.var 6), (.var 7), (.var 8), (.var 9), (.var 10), (.var 11), (.var 16)] none 4]
   (.evs [.call 5 [(.var 0), (.var 1), (.var 2), (.var 3), (.var 4), (.var 5), (.var 6), (.var 7), (.var 8), (.var 9), (.var 10), (.var 11), (.var 20)] none 4]
   (.evs [.call 6 [(.var 0), (.var 1), (.var 2), (.var 3), (.var 4), (.var 5), (.var 6), (.var 7), (.var 8), (.var 9), (.var 10), (.var 11), (.var 24)] none 4]
   (.evs [.call 3 [(.var 0), (.var 1), (.var 2), (.var 3), (.var 4), (.var 5), (.var 6), (.var 7), (.var 8), (.var 9), (.var 10), (.var 11), (.var 28)] none 4]
   (.evs [.call 4 [(.var 0), (.var 1), (.var 2), (.var 3), (.var 4), (.var 5), (.var 6), (.var 7), (.var 8), (.var 9), (.var 10), (.var 11), (.var 32)] none 4]
   (.evs [.call 7 [(.var 0), (.var 1), (.var 2), (.var 3), (.var 4), (.var 5), (.var 6), (.var 7), (.var 8), (.var 9), (.var 10), (.var 11), (.var 36)] none 4]
   (.evs [.call 8 [(.var 0), (.var 1), (.var 2), (.var 3), (.var 4), (.var 5), (.var 6), (.var 7), (.var 8), (.var 9), (.var 10), (.var 11), (.var 40)] none 4]
   (.evs [.call 9 [(.var 0), (.var 1), (.var 2), (.var 3), (.var 4), (.var 5), (.var 6), (.var 7), (.var 8), (.var 9), (.var 10), (.var 11), (.var 44)] none 4]
   (.evs [.call 10 [(.var 0), (.var 1), (.var 2), (.var 3), (.var 4), (.var 5), (.var 6), (.var 7), (.var 8), (.var 9), (.var 10), (.var 11), (.var 48)] none 4]
   (.evs [.call 11 [(.var 0), (.var 1), (.var 2), (.var 3), (.var 4), (.var 5), (.var 6), (.var 7), (.var 8), (.var 9), (.var 10), (.var 11), (.var 52)] none 4]
   (.evs [.call 12 [(.var 0), (.var 1), (.var 2), (.var 3), (.var 4), (.var 5), (.var 6), (.var 7), (.var 8), (.var 9), (.var 10), (.var 11), (.var 56)] none 4]
   (.evs [.call 13 [(.var 0), (.var 1), (.var 2), (.var 3), (.var 4), (.var 5), (.var 6), (.var 7), (.var 8), (.var 9), (.var 10), (.var 11), (.var 60)] none 4]
   (.evs [.call 14 [(.var 0), (.var 1), (.var 2), (.var 3), (.var 4), (.var 5), (.var 6), (.var 7), (.var 8), (.var 9), (.var 10), (.var 11), (.var 64)] none 4]
   (.evs [.call 15 [(.var 0), (.var 1), (.var 2), (.var 3), (.var 4), (.var 5), (.var 6), (.var 7), (.var 8), (.var 9), (.var 10), (.var 11), (.var 68)] none 4]
   (.evs [.call 16 [(.var 0), (.var 1), (.var 2), (.var 3), (.var 4), (.var 5), (.var 6), (.var 7), (.var 8), (.var 9), (.var 10), (.var 11), (.var 72)] none 4]
   (.ite (.not (.var 76))
   (.ret [(.int .i64 0), (.int .i64 0), (.int .i64 0), (.int .i64 0), (.int .i64 0), (.int .i64 0), (.int .i64 0), (.int .i64 0), (.int .i64 0), (.int .i64 0), (.int .i64 0), (.int .i64 0), (.int .i64 0), (.int .i64 0), (.int .i64 0), (.int .i64 0), (.int .i64 0), (.int .i64 0), (.int .i64 0), (.int .i64 0), (.int .i64 0), (.int .i64 0), (.int .i64 0), (.int .i64 0), (.int .i64 0), (.int .i64 0), (.int .i64 0), (.int .i64 0), (.int .i64 0), (.int .i64 0), (.int .i64 0), (.int .i64 0), (.int .i64 0), (.int .i64 0), (.int .i64 0), (.int .i64 0), (.int .i64 0), (.int .i64 0), (.int .i64 0), (.int .i64 0), (.int .i64 0), (.int .i64 0), (.int .i64 0), (.int .i64 0), (.int .i64 0), (.int .i64 0), (.int .i64 0), (.int .i64 0), (.bool false)])
   (.ret [(.var 13), (.var 14), (.var 15), (.var 17), (.var 18), (.var 19), (.var 21), (.var 22), (.var 23), (.var 25), (.var 26), (.var 27), (.var 29), (.var 30), (.var 31), (.var 33), (.var 34), (.var 35), (.var 37), (.var 38), (.var 39), (.var 41), (.var 42), (.var 43), (.var 45), (.var 46), (.var 47), (.var 49), (.var 50), (.var 51), (.var 53), (.var 54), (.var 55), (.var 57), (.var 58), (.var 59), (.var 61), (.var 62), (.var 63), (.var 65), (.var 66), (.var 67), (.var 69), (.var 70), (.var 71), (.var 73), (.var 74), (.var 75), (.bool true)]))))))))))))))))))))
def Fs_sTableOf : List Fun1 := [G_sMatValid, F_l6tPowersA, F_l6tPowersB, F_l6tPowersC, F_l6tPowersD, F_l6tTwo2, F_l6tTwo3, F_l6tTwo6, F_l6tTwo7, F_l6tTwo8, F_l6tTwo9, F_l6tTwo10, F_l6tTwo11, F_l6tTwo12, F_l6tTwo13, F_l6tTwo14, F_l6tTwo15]
def F_sTableOf : Fun1 := ofTree Fs_sTableOf tr_sTableOf
theorem pre_l6tPowersA (ins : List Value) : F_l6tPowersA.pre ins := okT_free (by intro F hF ins; simp only [Fs_l6tPowersA, List.mem_cons, List.not_mem_nil, or_false] at hF; rcases hF with rfl | rfl | rfl | rfl <;> trivial) _ _ (by kernel_rfl)
theorem pre_l6tPowersB (ins : List Value) : F_l6tPowersB.pre ins := okT_free (by intro F hF ins; simp only [Fs_l6tPowersB, List.mem_cons, List.not_mem_nil, or_false] at hF; rcases hF with rfl | rfl | rfl | rfl <;> trivial) _ _ (by kernel_rfl)
theorem pre_l6tPowersC (ins : List Value) : F_l6tPowersC.pre ins := okT_free (by intro F hF ins; simp only [Fs_l6tPowersC, List.mem_cons, List.not_mem_nil, or_false] at hF; rcases hF with rfl | rfl | rfl | rfl <;> trivial) _ _ (by kernel_rfl)
theorem pre_l6tPowersD (ins : List Value) : F_l6tPowersD.pre ins := okT_free (by intro F hF ins; simp only [Fs_l6tPowersD, List.mem_cons, List.not_mem_nil, or_false] at hF; rcases hF with rfl | rfl | rfl | rfl <;> trivial) _ _ (by kernel_rfl)
theorem pre_l6tTwo2 (ins : List Value) : F_l6tTwo2.pre ins := okT_free (by intro F hF ins; simp only [Fs_l6tTwo2, List.mem_cons, List.not_mem_nil, or_false] at hF; rcases hF with rfl | rfl | rfl <;> trivial) _ _ (by kernel_rfl)
theorem pre_l6tTwo3 (ins : List Value) : F_l6tTwo3.pre ins := okT_free (by intro F hF ins; simp only [Fs_l6tTwo3, List.mem_cons, List.not_mem_nil, or_false] at hF; rcases hF with rfl | rfl | rfl <;> trivial) _ _ (by kernel_rfl)
theorem pre_l6tTwo6 (ins : List Value) : F_l6tTwo6.pre ins := okT_free (by intro F hF ins; simp only [Fs_l6tTwo6, List.mem_cons, List.not_mem_nil, or_false] at hF; rcases hF with rfl | rfl | rfl <;> trivial) _ _ (by kernel_rfl)
theorem pre_l6tTwo7 (ins : List Value) : F_l6tTwo7.pre ins := okT_free (by intro F hF ins; simp only [Fs_l6tTwo7, List.mem_cons, List.not_mem_nil, or_false] at hF; rcases hF with rfl | rfl | rfl <;> trivial) _ _ (by kernel_rfl)
theorem pre_l6tTwo8 (ins : List Value) : F_l6tTwo8.pre ins := okT_free (by intro F hF ins; simp only [Fs_l6tTwo8, List.mem_cons, List.not_mem_nil, or_false] at hF; rcases hF with rfl | rfl | rfl <;> trivial) _ _ (by kernel_rfl)
theorem pre_l6tTwo9 (ins : List Value) : F_l6tTwo9.pre ins := okT_free (by intro F hF ins; simp only [Fs_l6tTwo9, List.mem_cons, List.not_mem_nil, or_false] at hF; rcases hF with rfl | rfl | rfl <;> trivial) _ _ (by kernel_rfl)
theorem pre_l6tTwo10 (ins : List Value) : F_l6tTwo10.pre ins := okT_free (by intro F hF ins; simp only [Fs_l6tTwo10, List.mem_cons, List.not_mem_nil, or_false] at hF; rcases hF with rfl | rfl | rfl <;> trivial) _ _ (by kernel_rfl)
theorem pre_l6tTwo11 (ins : List Value) : F_l6tTwo11.pre ins := okT_free (by intro F hF ins; simp only [Fs_l6tTwo11, List.mem_cons, List.not_mem_nil, or_false] at hF; rcases hF with rfl | rfl | rfl <;> trivial) _ _ (by kernel_rfl)
theorem pre_l6tTwo12 (ins : List Value) : F_l6tTwo12.pre ins := okT_free (by intro F hF ins; simp only [Fs_l6tTwo12, List.mem_cons, List.not_mem_nil, or_false] at hF; rcases hF with rfl | rfl | rfl <;> trivial) _ _ (by kernel_rfl)
theorem pre_l6tTwo13 (ins : List Value) : F_l6tTwo13.pre ins := okT_free (by intro F hF ins; simp only [Fs_l6tTwo13, List.mem_cons, List.not_mem_nil, or_false] at hF; rcases hF with rfl | rfl | rfl <;> trivial) _ _ (by kernel_rfl)
theorem pre_l6tTwo14 (ins : List Value) : F_l6tTwo14.pre ins := okT_free (by intro F hF ins; simp only [Fs_l6tTwo14, List.mem_cons, List.not_mem_nil, or_false] at hF; rcases hF with rfl | rfl | rfl <;> trivial) _ _ (by kernel_rfl)
theorem pre_l6tTwo15 (ins : List Value) : F_l6tTwo15.pre ins := okT_free (by intro F hF ins; simp only [Fs_l6tTwo15, List.mem_cons, List.not_mem_nil, or_false] at hF; rcases hF with rfl | rfl | rfl <;> trivial) _ _ (by kernel_rfl)
def G_sTableOf : Fun1 := ⟨fun _ => True, fun ins => nttW 16 (matQ fun k => q3 ins (3 * k)) (toD fun k => q3 ins (3 * k))⟩
theorem out_sTableOf : (fun (g : Nat → Int) => F_sTableOf.out (ivs g 0 12)) = fun g =>
    if toB (.bool (!matQ fun k => q3 (ivs g 0 12) (3 * k))) = true then zeros 48 ++ [.bool false] else nfinS 16 (tofS fun k => q3 (ivs g 0 12) (3 * k)).2 (tofS fun k => q3 (ivs g 0 12) (3 * k)).1 := by kernel_rfl
theorem as_sTableOf (ins : List Value) (ht : TypedL (intTs 12 ++ []) ins) (_ : G_sTableOf.pre ins) : F_sTableOf.pre ins ∧ F_sTableOf.out ins = G_sTableOf.out ins := by
  obtain ⟨g, r, rfl, h1, _⟩ := ints_lit 12 0 ht
  obtain rfl := ints0 h1
  rw [List.append_nil]
  have hF : Free Fs_sTableOf [true, true, true, true, true, true, true, true, true, true, true, true, true, true, true, true, true] :=
    .yes (fun _ => trivial) (.yes pre_l6tPowersA (.yes pre_l6tPowersB (.yes pre_l6tPowersC (.yes pre_l6tPowersD (.yes pre_l6tTwo2 (.yes pre_l6tTwo3 (.yes pre_l6tTwo6 (.yes pre_l6tTwo7 (.yes pre_l6tTwo8 (.yes pre_l6tTwo9 (.yes pre_l6tTwo10 (.yes pre_l6tTwo11 (.yes pre_l6tTwo12 (.yes pre_l6tTwo13 (.yes pre_l6tTwo14 (.yes pre_l6tTwo15 .nil))))))))))))))))
  refine ⟨okT_mask hF _ _ (by kernel_rfl), (congrFun out_sTableOf g).trans ?_⟩
  exact (tofS_eq _).trans (nttV_eq _ _ _)
def A_sTableOf : AF := aAny 49
theorem aok_sTableOf {cb : CodeB} : AOK cb G_sTableOf A_sTableOf := aAny_ok (fun _ => trivial) (fun ins => by simp [G_sTableOf, nttW, ivs_length])

def tr_l5Four : Tr :=
  (.ite (.not (.var 12))
  (.ret [(.int .i64 0), (.int .i64 0), (.int .i64 0), (.int .i64 0), (.int .i64 0), (.int .i64 0), (.int .i64 0), (.int .i64 0), (.int .i64 0), (.int .i64 0), (.int .i64 0), (.int .i64 0), (.bool false)])
  (.ret [(.var 0), (.var 1), (.var 2), (.var 3), (.var 4), (.var 5), (.var 6), (.var 7), (.var 8), (.var 9), (.var 10), (.var 11), (.bool true)]))
def Fs_l5Four : List Fun1 := []
def F_l5Four : Fun1 := ofTree Fs_l5Four tr_l5Four
def G_l5Four : Fun1 := ⟨fun _ => True, fun ins => gotV (!b0 ins 12) ins 0 12 ++ [.bool (b0 ins 12)]⟩
theorem out_l5Four : (fun (g : Nat → Int) => F_l5Four.out (ivs g 0 12 ++ [.bool true])) = fun g => G_l5Four.out (ivs g 0 12 ++ [.bool true]) := by kernel_rfl
theorem out_l5Four' : (fun (g : Nat → Int) => F_l5Four.out (ivs g 0 12 ++ [.bool false])) = fun g => G_l5Four.out (ivs g 0 12 ++ [.bool false]) := by kernel_rfl
theorem as_l5Four (ins : List Value) (ht : TypedL (intTs 12 ++ [.bool]) ins) (_ : G_l5Four.pre ins) : F_l5Four.pre ins ∧ F_l5Four.out ins = G_l5Four.out ins := by
  obtain ⟨g, r, rfl, h1, _⟩ := ints_lit 12 0 ht
  obtain ⟨b, r2, rfl, h2⟩ := bool_cons h1
  obtain rfl := ints0 h2
  refine ⟨okT_free (fun F hF => by cases hF) _ _ (by kernel_rfl), ?_⟩
  cases b
  · exact congrFun out_l5Four' g
  · exact congrFun out_l5Four g
def A_l5Four : AF := aAny 13
theorem aok_l5Four {cb : CodeB} : AOK cb G_l5Four A_l5Four := aAny_ok (fun _ => trivial) (fun ins => by show (gotV _ _ 0 12 ++ _).length = 13; exact rfl)

def tr_sMatTimes : Tr :=
  (.evs [.call 0 [(.var 0), (.var 1), (.var 2), (.var 3), (.var 4), (.var 5), (.var 6), (.var 7), (.var 8), (.var 9), (.var 10), (.var 11)] none 1,
    .call 0 [(.var 12), (.var 13), (.var 14), (.var 15), (.var 16), (.var 17), (.var 18), (.var 19), (.var 20), (.var 21), (.var 22), (.var 23)] (some (.not (.not (.var 24)))) 1]
  (.ite (.ite (.not (.var 24)) (.bool true) (.not (.var 25)))
  (.ret [(.int .i64 0), (.int .i64 0), (.int .i64 0), (.int .i64 0), (.int .i64 0), (.int .i64 0), (.int .i64 0), (.int .i64 0), (.int .i64 0), (.int .i64 0), (.int .i64 0), (.int .i64 0), (.bool false)])
  (.evs [.call 1 [(.var 0), (.var 1), (.var 2), (.var 12), (.var 13), (.var 14), (.var 3), (.var 4), (.var 5), (.var 18), (.var 19), (.var 20)] none 4]
   (.evs [.call 1 [(.var 0), (.var 1), (.var 2), (.var 15), (.var 16), (.var 17), (.var 3), (.var 4), (.var 5), (.var 21), (.var 22), (.var 23)] none 4]
   (.evs [.call 1 [(.var 6), (.var 7), (.var 8), (.var 12), (.var 13), (.var 14), (.var 9), (.var 10), (.var 11), (.var 18), (.var 19), (.var 20)] none 4]
   (.evs [.call 1 [(.var 6), (.var 7), (.var 8), (.var 15), (.var 16), (.var 17), (.var 9), (.var 10), (.var 11), (.var 21), (.var 22), (.var 23)] none 4]
   (.evs [.call 2 [(.var 26), (.var 27), (.var 28), (.var 30), (.var 31), (.var 32), (.var 34), (.var 35), (.var 36), (.var 38), (.var 39), (.var 40), (.ite (.ite (.ite (.var 29) (.var 33) (.bool false)) (.var 37) (.bool false)) (.var 41) (.bool false))] none 13]
   (.ret [(.var 42), (.var 43), (.var 44), (.var 45), (.var 46), (.var 47), (.var 48), (.var 49), (.var 50), (.var 51), (.var 52), (.var 53), (.var 54)]))))))))
def Fs_sMatTimes : List Fun1 := [G_sMatValid, G_l3Inner, G_l5Four]
def F_sMatTimes : Fun1 := ofTree Fs_sMatTimes tr_sMatTimes
def G_sMatTimes : Fun1 := ⟨fun _ => True, fun ins => nttW 4 (matQ (fun k => q3 ins (3 * k)) && matQ (fun k => q3 ins (12 + 3 * k))) (mulM (fun k => q3 ins (3 * k)) (fun k => q3 ins (12 + 3 * k)))⟩
theorem out_sMatTimes : (fun (g : Nat → Int) => evalT' Fs_sMatTimes tr_sMatTimes (ivs g 0 24)) = fun g =>
    mtS (fun k => q3 (ivs g 0 24) (3 * k)) (fun k => q3 (ivs g 0 24) (12 + 3 * k)) := by kernel_rfl
theorem as_sMatTimes (ins : List Value) (ht : TypedL (intTs 24 ++ []) ins) (_ : G_sMatTimes.pre ins) : F_sMatTimes.pre ins ∧ F_sMatTimes.out ins = G_sMatTimes.out ins := by
  obtain ⟨g, r, rfl, h1, _⟩ := ints_lit 24 0 ht
  obtain rfl := ints0 h1
  rw [List.append_nil]
  refine ⟨okT_free (by intro F hF ins; simp only [Fs_sMatTimes, List.mem_cons, List.not_mem_nil, or_false] at hF; rcases hF with rfl | rfl | rfl <;> trivial) _ _ (by kernel_rfl), (evalT_sel (lens := [1]) (Lens.cons (fun _ => rfl) Lens.nil) _ _ (by kernel_rfl)).trans ((congrFun out_sMatTimes g).trans ?_)⟩
  exact (mtS_eq _ _).trans (nttV_eq _ _ _)
def A_sMatTimes : AF := aAny 13
theorem aok_sMatTimes {cb : CodeB} : AOK cb G_sMatTimes A_sMatTimes := aAny_ok (fun _ => trivial) (fun ins => by simp [G_sMatTimes, nttW, ivs_length])

def tr_wholeM : Tr :=
  (.ret [])
def Fs_wholeM : List Fun1 := []
def F_wholeM : Fun1 := ofTree Fs_wholeM tr_wholeM

def tr_l5One : Tr :=
  (.ret [(.var 0), (.var 1), (.var 2), (.int .i64 0), (.int .i64 0), (.int .i64 1), (.int .i64 0), (.int .i64 0), (.int .i64 1), (.var 3), (.var 4), (.var 5)])
def Fs_l5One : List Fun1 := []
def F_l5One : Fun1 := ofTree Fs_l5One tr_l5One
def A_l5One : AF := absT [] tr_l5One
theorem aok_l5One {cb : CodeB} : AOK cb F_l5One A_l5One := tree_aok AOKs.nil tr_l5One

def tr_pick : Tr :=
  (.ite (.ite (.cmp .lss (.var 0) (.int .i64 1)) (.bool true) (.cmp .eql (.len (.var 1)) (.int .i64 0)))
  (.ret [(.int .i64 0), (.var 1), (.ar .add .i64 (.var 2) (.int .i64 1))])
  (.ite (.cmp .lss (.ar .sub .i64 (.ar .add .i64 (.var 2) (.int .i64 1)) (.int .i64 1)) (.len (.var 1)))
   (.evs [.need [(.inb (.var 3) (.ar .sub .i64 (.ar .add .i64 (.var 2) (.int .i64 1)) (.int .i64 1)) 1)],
      .need [(.cmp .neq (.var 0) (.int .i64 0))]]
    (.ret [(.ar .rem .i64 (.conv .i64 (.sel (.var 3) (.ar .sub .i64 (.ar .add .i64 (.var 2) (.int .i64 1)) (.int .i64 1)) 1 0)) (.var 0)), (.var 1), (.ar .add .i64 (.var 2) (.int .i64 1))]))
   (.evs [.need [(.cmp .neq (.len (.var 1)) (.int .i64 0)), (.inb (.var 3) (.ar .rem .i64 (.ar .sub .i64 (.ar .add .i64 (.var 2) (.int .i64 1)) (.int .i64 1)) (.len (.var 1))) 1), (.cmp .neq (.len (.var 1)) (.int .i64 0)), (.inb (.var 3) (.ar .rem .i64 (.ar .add .i64 (.ar .mul .i64 (.ar .sub .i64 (.ar .add .i64 (.var 2) (.int .i64 1)) (.int .i64 1)) (.int .i64 7)) (.int .i64 3)) (.len (.var 1))) 1), (.cmp .neq (.len (.var 1)) (.int .i64 0))],
      .need [(.cmp .neq (.len (.var 1)) (.int .i64 0)), (.inb (.var 3) (.ar .rem .i64 (.ar .sub .i64 (.ar .add .i64 (.var 2) (.int .i64 1)) (.int .i64 1)) (.len (.var 1))) 1), (.cmp .neq (.len (.var 1)) (.int .i64 0)), (.inb (.var 3) (.ar .rem .i64 (.ar .add .i64 (.ar .mul .i64 (.ar .sub .i64 (.ar .add .i64 (.var 2) (.int .i64 1)) (.int .i64 1)) (.int .i64 7)) (.int .i64 3)) (.len (.var 1))) 1), (.cmp .neq (.len (.var 1)) (.int .i64 0))]]
    (.evs [.need [(.bool true)]]
    (.evs [.need [(.cmp .neq (.var 0) (.int .i64 0))]]
    (.ret [(.ar .rem .i64 (.ar .xor .i64 (.ar .add .i64 (.ar .add .i64 (.ar .add .i64 (.ar .mul .i64 (.conv .i64 (.sel (.var 3) (.ar .rem .i64 (.ar .sub .i64 (.ar .add .i64 (.var 2) (.int .i64 1)) (.int .i64 1)) (.len (.var 1))) 1 0)) (.int .i64 131)) (.ar .mul .i64 (.conv .i64 (.sel (.var 3) (.ar .rem .i64 (.ar .add .i64 (.ar .mul .i64 (.ar .sub .i64 (.ar .add .i64 (.var 2) (.int .i64 1)) (.int .i64 1)) (.int .i64 7)) (.int .i64 3)) (.len (.var 1))) 1 0)) (.int .i64 1117))) (.ar .mul .i64 (.ar .sub .i64 (.ar .add .i64 (.var 2) (.int .i64 1)) (.int .i64 1)) (.int .i64 29))) (.ar .mul .i64 (.ar .quo .i64 (.ar .sub .i64 (.ar .add .i64 (.var 2) (.int .i64 1)) (.int .i64 1)) (.len (.var 1))) (.int .i64 53))) (.ar .quo .i64 (.ar .add .i64 (.ar .add .i64 (.ar .add .i64 (.ar .mul .i64 (.conv .i64 (.sel (.var 3) (.ar .rem .i64 (.ar .sub .i64 (.ar .add .i64 (.var 2) (.int .i64 1)) (.int .i64 1)) (.len (.var 1))) 1 0)) (.int .i64 131)) (.ar .mul .i64 (.conv .i64 (.sel (.var 3) (.ar .rem .i64 (.ar .add .i64 (.ar .mul .i64 (.ar .sub .i64 (.ar .add .i64 (.var 2) (.int .i64 1)) (.int .i64 1)) (.int .i64 7)) (.int .i64 3)) (.len (.var 1))) 1 0)) (.int .i64 1117))) (.ar .mul .i64 (.ar .sub .i64 (.ar .add .i64 (.var 2) (.int .i64 1)) (.int .i64 1)) (.int .i64 29))) (.ar .mul .i64 (.ar .quo .i64 (.ar .sub .i64 (.ar .add .i64 (.var 2) (.int .i64 1)) (.int .i64 1)) (.len (.var 1))) (.int .i64 53))) (.int .i64 64))) (.var 0)), (.var 1), (.ar .add .i64 (.var 2) (.int .i64 1))]))))))
def Fs_pick : List Fun1 := []
def F_pick : Fun1 := ofTree Fs_pick tr_pick
theorem pick_tree {arr : Array Value} {b : Value} {n p L : Int} (hL : lenV b = L) (hs : L = (arr.size : Int)) (hL2 : L ≤ 9223372036854775807) (hn : I64 n) (hp : 0 ≤ p ∧ p ≤ 1000000000) (hb : ∀ i : Nat, 0 ≤ toI (arr.getD i undef) ∧ toI (arr.getD i undef) ≤ 255) :
    okT [] tr_pick [.int .i64 n, b, .int .i64 p, .agg arr] ∧ ∃ x, evalT [] tr_pick [.int .i64 n, b, .int .i64 p, .agg arr] = [.int .i64 x, b, .int .i64 (p + 1)] ∧ 0 ≤ x ∧ x ≤ max 0 (n - 1) := by
  have w1 : IntKind.i64.wrap (p + 1) = p + 1 := wrap_in (by omega)
  have w2 : IntKind.i64.wrap (p + 1 - 1) = p := by rw [show p + 1 - 1 = p by omega]; exact wrap_in (by omega)
  have wb : ∀ i : Nat, IntKind.i64.wrap (toI (arr.getD i undef)) = toI (arr.getD i undef) := fun i => wrap_in (by have := hb i; omega)
  unfold tr_pick
  simp only [okT, evalT, okE, evalE, needs, evsIn, ev, cmpI, arI, toI_int, List.getD_cons_zero, List.getD_cons_succ, w1, w2, hL, toB_bool, Value.cells, Nat.mul_one, Nat.add_zero, wb]
  by_cases c1 : n < 1
  · simp only [c1, decide_true, if_true, toB_bool]
    exact ⟨trivial, 0, rfl, by omega, by omega⟩
  by_cases c2 : L = 0
  · simp only [c1, c2, decide_false, Bool.false_eq_true, if_false, toB_bool, beq_self_eq_true, if_true]
    exact ⟨trivial, 0, rfl, by omega, by omega⟩
  have c3 : (L == 0) = false := by simp [c2]
  simp only [c1, c3, decide_false, Bool.false_eq_true, if_false, toB_bool]
  have n0 : (n != 0) = true := by simp; omega
  by_cases c4 : p < L
  · simp only [c4, decide_true, if_true]
    have h1 := hb p.toNat
    obtain ⟨r1, r2⟩ := tmod_rng (n := n) h1.1 (by omega)
    refine ⟨⟨⟨⟨by rw [Value.bool.injEq, decide_eq_true_eq]; omega, trivial⟩, ⟨by rw [n0], trivial⟩, trivial⟩, trivial⟩, _, rfl, r1, by omega⟩
  · simp only [c4, decide_false, Bool.false_eq_true, if_false]
    have w3 : IntKind.i64.wrap (p * 7) = p * 7 := wrap_in (by omega)
    have w4 : IntKind.i64.wrap (p * 7 + 3) = p * 7 + 3 := wrap_in (by omega)
    obtain ⟨a1, a2⟩ := tmod_rng (x := p) (n := L) (by omega) (by omega)
    obtain ⟨b1, b2⟩ := tmod_rng (x := p * 7 + 3) (n := L) (by omega) (by omega)
    obtain ⟨d1, d2⟩ := tdiv_range (x := p) (n := L) (by omega) (by omega)
    simp only [w3, w4]
    have y1 := hb (p.tmod L).toNat
    have y2 := hb ((p * 7 + 3).tmod L).toNat
    generalize toI (arr.getD (p.tmod L).toNat undef) = u at y1 ⊢
    generalize toI (arr.getD ((p * 7 + 3).tmod L).toNat undef) = v at y2 ⊢
    generalize p.tdiv L = z at d1 d2 ⊢
    rw [wrap_in (z := u * 131) (by omega), wrap_in (z := v * 1117) (by omega), wrap_in (z := p * 29) (by omega), wrap_in (z := z) (by omega), wrap_in (z := z * 53) (by omega),
      wrap_in (z := u * 131 + v * 1117) (by omega), wrap_in (z := u * 131 + v * 1117 + p * 29) (by omega), wrap_in (z := u * 131 + v * 1117 + p * 29 + z * 53) (by omega)]
    have hx : 0 ≤ u * 131 + v * 1117 + p * 29 + z * 53 ∧ u * 131 + v * 1117 + p * 29 + z * 53 ≤ 4611686018427387903 := by omega
    generalize u * 131 + v * 1117 + p * 29 + z * 53 = X at hx ⊢
    obtain ⟨t1, t2⟩ := tdiv_range (x := X) (n := 64) hx.1 (by omega)
    rw [wrap_in (z := X.tdiv 64) (by omega)]
    have hxr := xor_nonneg hx (y := X.tdiv 64) (by omega)
    obtain ⟨r1, r2⟩ := tmod_rng (n := n) hxr.1 (by omega)
    have L0 : (L != 0) = true := by simp [c2]
    refine ⟨⟨⟨⟨by rw [L0], by rw [Value.bool.injEq, decide_eq_true_eq]; omega, by rw [L0], by rw [Value.bool.injEq, decide_eq_true_eq]; omega, by rw [L0], trivial⟩, ⟨by rw [L0], by rw [Value.bool.injEq, decide_eq_true_eq]; omega, by rw [L0], by rw [Value.bool.injEq, decide_eq_true_eq]; omega, by rw [L0], trivial⟩, trivial⟩, ⟨⟨trivial, trivial⟩, trivial⟩, ⟨⟨by rw [n0], trivial⟩, trivial⟩, trivial⟩, _, rfl, r1, by omega⟩
def G_pick (cb : CodeB) : Fun1 := ⟨fun ins => goodSl cb (ins.getD 1 undef) ∧ (∃ n, ins.getD 0 undef = .int .i64 n ∧ I64 n) ∧ ∃ p, ins.getD 2 undef = .int .i64 p ∧ 0 ≤ p ∧ p ≤ 1000000000, fun ins => F_pick.out [ins.getD 0 undef, ins.getD 1 undef, ins.getD 2 undef, rowU cb (ins.getD 1 undef)]⟩
theorem pick_facts {cb : CodeB} (hk : CodeOk cb) {n p : Int} {b : Value} (hb : goodSl cb b) (hn : I64 n) (hp : 0 ≤ p ∧ p ≤ 1000000000) :
    F_pick.pre [.int .i64 n, b, .int .i64 p, rowU cb b] ∧ ∃ x, F_pick.out [.int .i64 n, b, .int .i64 p, rowU cb b] = [.int .i64 x, b, .int .i64 (p + 1)] ∧ 0 ≤ x ∧ x ≤ max 0 (n - 1) := by
  obtain ⟨a, len, cap, arr, hv, hr, hsz, hlen, harr⟩ := goodSl_row hk hb
  rw [hr]
  exact pick_tree (L := len) (by rw [hv]; rfl) (by omega) (by omega) hn hp (row_byte harr)
theorem ghost_pick {cb : CodeB} (hk : CodeOk cb) (n b p : Value) (ht : TypedL [.int .i64, .sl, .int .i64] [n, b, p]) (h : (G_pick cb).pre [n, b, p]) : goodSl cb b ∧ F_pick.pre [n, b, p, rowU cb b] ∧ F_pick.out [n, b, p, rowU cb b] = (G_pick cb).out [n, b, p] := by
  obtain ⟨h1, ⟨n, hn, hn'⟩, p, hp, hp'⟩ := h
  have hn : _ = Value.int .i64 n := hn
  have hp : _ = Value.int .i64 p := hp
  simp only [List.getD_cons_zero, List.getD_cons_succ] at hn hp h1
  subst hn hp
  exact ⟨h1, (pick_facts hk h1 hn' hp').1, rfl⟩
theorem aok_pick {cb : CodeB} (hk : CodeOk cb) : AOK cb (G_pick cb) aPick := by
  intro I O h ins hi
  match I, ins, hi, h with
  | [.itv lo hi', .good, .itv a b], [n, s, p], ⟨⟨n', hn, n1, n2⟩, hs, ⟨p', hp, p1, p2⟩, _⟩, h =>
    simp only [aPick] at h
    split at h
    · rename_i hc
      cases h
      simp only [Bool.and_eq_true, decide_eq_true_eq] at hc
      subst hn hp
      have hn64 : I64 n' := by unfold I64; omega
      have hpp : 0 ≤ p' ∧ p' ≤ 1000000000 := by omega
      obtain ⟨q1, x, q2, q3, q4⟩ := pick_facts hk hs hn64 hpp
      refine ⟨⟨hs, ⟨n', rfl, hn64⟩, p', rfl, hpp⟩, ?_⟩
      have e : (G_pick cb).out [.int .i64 n', s, .int .i64 p'] = [.int .i64 x, s, .int .i64 (p' + 1)] := q2
      rw [e]
      exact ⟨⟨x, rfl, q3, by omega⟩, hs, ⟨p' + 1, rfl, by omega, by omega⟩, trivial⟩
    · cases h

def tr_sMatAdjoint : Tr :=
  (.evs [.call 0 [(.var 0), (.var 1), (.var 2)] none 4]
  (.evs [.call 0 [(.var 6), (.var 7), (.var 8)] none 4]
  (.evs [.call 0 [(.var 3), (.var 4), (.var 5)] none 4]
  (.evs [.call 0 [(.var 9), (.var 10), (.var 11)] none 4]
  (.evs [.call 1 [(.var 12), (.var 13), (.var 14), (.var 16), (.var 17), (.var 18), (.var 20), (.var 21), (.var 22), (.var 24), (.var 25), (.var 26), (.ite (.ite (.ite (.var 15) (.var 19) (.bool false)) (.var 23) (.bool false)) (.var 27) (.bool false))] none 13]
  (.ret [(.var 28), (.var 29), (.var 30), (.var 31), (.var 32), (.var 33), (.var 34), (.var 35), (.var 36), (.var 37), (.var 38), (.var 39), (.var 40)]))))))
def Fs_sMatAdjoint : List Fun1 := [G_sFracMirror, G_l5Four]
def F_sMatAdjoint : Fun1 := ofTree Fs_sMatAdjoint tr_sMatAdjoint
def A_sMatAdjoint : AF := absT [A_sFracMirror, A_l5Four] tr_sMatAdjoint
theorem aok_sMatAdjoint {cb : CodeB} : AOK cb F_sMatAdjoint A_sMatAdjoint := tree_aok (AOKs.cons aok_sFracMirror (AOKs.cons aok_l5Four AOKs.nil)) tr_sMatAdjoint

def tr_sMatRotator : Tr :=
  (.evs [.call 0 [(.var 0), (.var 1)] none 7]
  (.evs [.call 1 [(.var 2), (.var 3), (.var 4), (.ar .sub .i64 (.int .i64 0) (.var 5)), (.int .i64 0), (.var 7), (.var 5), (.var 6), (.var 7), (.var 2), (.var 3), (.var 4), (.var 8)] none 13]
  (.ret [(.var 9), (.var 10), (.var 11), (.var 12), (.var 13), (.var 14), (.var 15), (.var 16), (.var 17), (.var 18), (.var 19), (.var 20), (.var 21)])))
def Fs_sMatRotator : List Fun1 := [G_l5Direction, G_l5Four]
def F_sMatRotator : Fun1 := ofTree Fs_sMatRotator tr_sMatRotator
def A_sMatRotator : AF := absT [A_l5Direction, A_l5Four] tr_sMatRotator
theorem aok_sMatRotator {cb : CodeB} : AOK cb F_sMatRotator A_sMatRotator := tree_aok (AOKs.cons aok_l5Direction (AOKs.cons aok_l5Four AOKs.nil)) tr_sMatRotator

def tr_l5PhaseK : Tr :=
  (.evs [.need [(.cmp .leq (.int .i64 0) (.var 0)), (.cmp .lss (.var 0) (.int .i64 4))]]
  (.ret [(.ite (.cmp .eql (.var 0) (.int .i64 0)) (.int .i64 1) (.ite (.cmp .eql (.var 0) (.int .i64 1)) (.int .i64 0) (.ite (.cmp .eql (.var 0) (.int .i64 2)) (.int .i64 (-1)) (.int .i64 0)))), (.ite (.cmp .eql (.var 0) (.int .i64 0)) (.int .i64 0) (.ite (.cmp .eql (.var 0) (.int .i64 1)) (.int .i64 1) (.ite (.cmp .eql (.var 0) (.int .i64 2)) (.int .i64 0) (.int .i64 (-1))))), (.ite (.cmp .eql (.var 0) (.int .i64 0)) (.int .i64 1) (.ite (.cmp .eql (.var 0) (.int .i64 1)) (.int .i64 1) (.ite (.cmp .eql (.var 0) (.int .i64 2)) (.int .i64 1) (.int .i64 1))))]))
def Fs_l5PhaseK : List Fun1 := []
def F_l5PhaseK : Fun1 := ofTree Fs_l5PhaseK tr_l5PhaseK
def A_l5PhaseK : AF := absT [] tr_l5PhaseK
theorem aok_l5PhaseK {cb : CodeB} : AOK cb F_l5PhaseK A_l5PhaseK := tree_aok AOKs.nil tr_l5PhaseK

def tr_sMatPlate : Tr :=
  (.evs [.call 0 [(.var 0), (.var 1)] none 13]
  (.evs [.call 1 [(.var 2), (.int .i64 0), (.int .i64 3)] (some (.not (.not (.var 15)))) 1]
  (.ite (.ite (.not (.var 15)) (.bool true) (.not (.var 16)))
  (.ret [(.int .i64 0), (.int .i64 0), (.int .i64 0), (.int .i64 0), (.int .i64 0), (.int .i64 0), (.int .i64 0), (.int .i64 0), (.int .i64 0), (.int .i64 0), (.int .i64 0), (.int .i64 0), (.bool false)])
  (.evs [.call 2 [(.var 3), (.var 4), (.var 5), (.var 6), (.var 7), (.var 8), (.var 9), (.var 10), (.var 11), (.var 12), (.var 13), (.var 14)] none 13]
   (.evs [.call 3 [(.int .i64 0)] none 3,
     .call 3 [(.var 2)] none 3,
     .call 4 [(.var 30), (.var 31), (.var 32), (.var 33), (.var 34), (.var 35)] none 12,
     .call 5 [(.var 3), (.var 4), (.var 5), (.var 6), (.var 7), (.var 8), (.var 9), (.var 10), (.var 11), (.var 12), (.var 13), (.var 14), (.var 36), (.var 37), (.var 38), (.var 39), (.var 40), (.var 41), (.var 42), (.var 43), (.var 44), (.var 45), (.var 46), (.var 47)] none 13]
   (.evs [.call 5 [(.var 48), (.var 49), (.var 50), (.var 51), (.var 52), (.var 53), (.var 54), (.var 55), (.var 56), (.var 57), (.var 58), (.var 59), (.var 17), (.var 18), (.var 19), (.var 20), (.var 21), (.var 22), (.var 23), (.var 24), (.var 25), (.var 26), (.var 27), (.var 28)] none 13]
   (.ite (.ite (.not (.var 60)) (.bool true) (.not (.var 73)))
   (.ret [(.int .i64 0), (.int .i64 0), (.int .i64 0), (.int .i64 0), (.int .i64 0), (.int .i64 0), (.int .i64 0), (.int .i64 0), (.int .i64 0), (.int .i64 0), (.int .i64 0), (.int .i64 0), (.bool false)])
   (.ret [(.var 61), (.var 62), (.var 63), (.var 64), (.var 65), (.var 66), (.var 67), (.var 68), (.var 69), (.var 70), (.var 71), (.var 72), (.bool true)]))))))))
def Fs_sMatPlate : List Fun1 := [F_sMatRotator, G_l6In, F_sMatAdjoint, F_l5PhaseK, F_l5One, G_sMatTimes]
def F_sMatPlate : Fun1 := ofTree Fs_sMatPlate tr_sMatPlate
def A_sMatPlate : AF := absT [A_sMatRotator, A_l6In, A_sMatAdjoint, A_l5PhaseK, A_l5One, A_sMatTimes] tr_sMatPlate
theorem aok_sMatPlate {cb : CodeB} : AOK cb F_sMatPlate A_sMatPlate := tree_aok (AOKs.cons aok_sMatRotator (AOKs.cons aok_l6In (AOKs.cons aok_sMatAdjoint (AOKs.cons aok_l5PhaseK (AOKs.cons aok_l5One (AOKs.cons aok_sMatTimes AOKs.nil)))))) tr_sMatPlate

def tr_sMatFilter : Tr :=
  (.evs [.call 0 [(.var 0), (.var 1)] none 7]
  (.ite (.not (.var 8))
  (.ret [(.int .i64 0), (.int .i64 0), (.int .i64 0), (.int .i64 0), (.int .i64 0), (.int .i64 0), (.int .i64 0), (.int .i64 0), (.int .i64 0), (.int .i64 0), (.int .i64 0), (.int .i64 0), (.bool false)])
  (.evs [.call 1 [(.var 2), (.var 3), (.var 4), (.var 2), (.var 3), (.var 4)] none 4]
   (.evs [.call 1 [(.var 2), (.var 3), (.var 4), (.var 5), (.var 6), (.var 7)] none 4]
   (.evs [.call 1 [(.var 5), (.var 6), (.var 7), (.var 5), (.var 6), (.var 7)] none 4]
   (.evs [.call 2 [(.var 9), (.var 10), (.var 11), (.var 13), (.var 14), (.var 15), (.var 13), (.var 14), (.var 15), (.var 17), (.var 18), (.var 19), (.ite (.ite (.var 12) (.var 16) (.bool false)) (.var 20) (.bool false))] none 13]
   (.ret [(.var 21), (.var 22), (.var 23), (.var 24), (.var 25), (.var 26), (.var 27), (.var 28), (.var 29), (.var 30), (.var 31), (.var 32), (.var 33)])))))))
def Fs_sMatFilter : List Fun1 := [G_l5Direction, G_sFracTimes, G_l5Four]
def F_sMatFilter : Fun1 := ofTree Fs_sMatFilter tr_sMatFilter
def A_sMatFilter : AF := absT [A_l5Direction, A_sFracTimes, A_l5Four] tr_sMatFilter
theorem aok_sMatFilter {cb : CodeB} : AOK cb F_sMatFilter A_sMatFilter := tree_aok (AOKs.cons aok_l5Direction (AOKs.cons aok_sFracTimes (AOKs.cons aok_l5Four AOKs.nil))) tr_sMatFilter

def tr_l6tDiag : Tr :=
  (.evs [.need [(.bool true)]]
  (.evs [.need [(.bool true)]]
  (.evs [.need [(.bool true)]]
  (.evs [.need [(.bool true)]]
  (.evs [.need [(.bool true)]]
  (.evs [.need [(.bool true)]]
  (.evs [.need [(.bool true)]]
  (.evs [.need [(.bool true)]]
  (.evs [.need [(.bool true)]]
  (.evs [.need [(.bool true)]]
  (.evs [.need [(.bool true)]]
  (.evs [.need [(.bool true)]]
  (.evs [.need [(.bool true)]]
  (.evs [.need [(.bool true)]]
  (.evs [.need [(.bool true)]]
  (.evs [.need [(.bool true)]]
  (.ret [(.int .i64 1), (.int .i64 0), (.int .i64 1), (.int .i64 0), (.int .i64 0), (.int .i64 1), (.int .i64 0), (.int .i64 0), (.int .i64 1), (.int .i64 0), (.int .i64 0), (.int .i64 1), (.int .i64 0), (.int .i64 0), (.int .i64 1), (.var 0), (.var 1), (.var 2), (.int .i64 0), (.int .i64 0), (.int .i64 1), (.int .i64 0), (.int .i64 0), (.int .i64 1), (.int .i64 0), (.int .i64 0), (.int .i64 1), (.int .i64 0), (.int .i64 0), (.int .i64 1), (.var 0), (.var 1), (.var 2), (.int .i64 0), (.int .i64 0), (.int .i64 1), (.int .i64 0), (.int .i64 0), (.int .i64 1), (.int .i64 0), (.int .i64 0), (.int .i64 1), (.int .i64 0), (.int .i64 0), (.int .i64 1), (.var 0), (.var 1), (.var 2)])))))))))))))))))
def Fs_l6tDiag : List Fun1 := []
def F_l6tDiag : Fun1 := ofTree Fs_l6tDiag tr_l6tDiag
def A_l6tDiag : AF := absT [] tr_l6tDiag
theorem aok_l6tDiag {cb : CodeB} : AOK cb F_l6tDiag A_l6tDiag := tree_aok AOKs.nil tr_l6tDiag

def tr_l6tUnit : Tr :=
  (.evs [.call 0 [(.int .i64 1), (.int .i64 0), (.int .i64 1)] none 48]
  (.ret [(.var 0), (.var 1), (.var 2), (.var 3), (.var 4), (.var 5), (.var 6), (.var 7), (.var 8), (.var 9), (.var 10), (.var 11), (.var 12), (.var 13), (.var 14), (.var 15), (.var 16), (.var 17), (.var 18), (.var 19), (.var 20), (.var 21), (.var 22), (.var 23), (.var 24), (.var 25), (.var 26), (.var 27), (.var 28), (.var 29), (.var 30), (.var 31), (.var 32), (.var 33), (.var 34), (.var 35), (.var 36), (.var 37), (.var 38), (.var 39), (.var 40), (.var 41), (.var 42), (.var 43), (.var 44), (.var 45), (.var 46), (.var 47)]))
def Fs_l6tUnit : List Fun1 := [F_l6tDiag]
def F_l6tUnit : Fun1 := ofTree Fs_l6tUnit tr_l6tUnit
def A_l6tUnit : AF := absT [A_l6tDiag] tr_l6tUnit
theorem aok_l6tUnit {cb : CodeB} : AOK cb F_l6tUnit A_l6tUnit := tree_aok (AOKs.cons aok_l6tDiag AOKs.nil) tr_l6tUnit

abbrev F_pickC := G_pick
abbrev A_pickC := aPick
theorem aok_pickC {cb : CodeB} (hk : CodeOk cb) : AOK cb (G_pick cb) aPick := aok_pick hk

abbrev F_openC := G_open
abbrev A_openC := aOpen
theorem aok_openC {cb : CodeB} (_ : CodeOk cb) : AOK cb (G_open cb) aOpen := aok_open

def tr_l91Frac : Tr :=
  (.evs [.call 0 [(.int .i64 40), (.var 0), (.var 1)] none 3]
  (.ite (.cmp .eql (.var 2) (.int .i64 0))
  (.ret [(.int .i64 2), (.int .i64 4), (.int .i64 2), (.var 3), (.var 4)])
  (.ite (.cmp .eql (.var 2) (.int .i64 1))
   (.ret [(.int .i64 1), (.int .i64 0), (.int .i64 0), (.var 3), (.var 4)])
   (.ite (.cmp .eql (.var 2) (.int .i64 2))
    (.ret [(.int .i64 2000000000), (.int .i64 1), (.int .i64 7), (.var 3), (.var 4)])
    (.ite (.cmp .eql (.var 2) (.int .i64 3))
     (.ret [(.int .i64 0), (.int .i64 0), (.int .i64 1), (.var 3), (.var 4)])
     (.evs [.call 0 [(.int .i64 13), (.var 3), (.var 4)] none 3,
        .call 0 [(.int .i64 9), (.var 6), (.var 7)] none 3,
        .call 0 [(.int .i64 2), (.var 9), (.var 10)] none 3,
        .call 0 [(.int .i64 5), (.var 12), (.var 13)] none 3,
        .call 1 [(.ar .sub .i64 (.var 5) (.int .i64 6)), (.ar .mul .i64 (.ar .sub .i64 (.var 8) (.int .i64 4)) (.var 11)), (.ar .add .i64 (.int .i64 1) (.var 14))] none 4]
      (.ret [(.var 17), (.var 18), (.var 19), (.var 15), (.var 16)])))))))
def Fs_l91Frac (cb : CodeB) : List Fun1 := [(F_pickC cb), G_l2Low]
def F_l91Frac (cb : CodeB) : Fun1 := ofTree (Fs_l91Frac cb) tr_l91Frac
def A_l91Frac : AF := absT [A_pickC, A_l2Low] tr_l91Frac
theorem aok_l91Frac {cb : CodeB} (hk : CodeOk cb) : AOK cb (F_l91Frac cb) A_l91Frac := tree_aok (AOKs.cons (aok_pickC hk) (AOKs.cons aok_l2Low AOKs.nil)) tr_l91Frac

def tr_l91Real : Tr :=
  (.evs [.call 1 [(.var 0), (.var 1)] none 5]
  (.evs [.call 0 [(.int .i64 20), (.var 5), (.var 6)] none 3]
  (.ite (.cmp .eql (.var 7) (.int .i64 0))
  (.ret [(.var 2), (.var 3), (.var 4), (.var 8), (.var 9)])
  (.evs [.call 0 [(.int .i64 17), (.var 8), (.var 9)] none 3,
     .call 0 [(.int .i64 4), (.var 11), (.var 12)] none 3,
     .call 2 [(.ar .sub .i64 (.var 10) (.int .i64 8)), (.int .i64 0), (.ar .add .i64 (.int .i64 1) (.var 13))] none 4]
   (.ret [(.var 16), (.var 17), (.var 18), (.var 14), (.var 15)])))))
def Fs_l91Real (cb : CodeB) : List Fun1 := [(F_pickC cb), (F_l91Frac cb), G_l2Low]
def F_l91Real (cb : CodeB) : Fun1 := ofTree (Fs_l91Real cb) tr_l91Real
def A_l91Real : AF := absT [A_pickC, A_l91Frac, A_l2Low] tr_l91Real
theorem aok_l91Real {cb : CodeB} (hk : CodeOk cb) : AOK cb (F_l91Real cb) A_l91Real := tree_aok (AOKs.cons (aok_pickC hk) (AOKs.cons (aok_l91Frac hk) (AOKs.cons aok_l2Low AOKs.nil))) tr_l91Real

def tr_l91Direction : Tr :=
  (.evs [.call 0 [(.int .i64 7), (.var 0), (.var 1)] none 3]
  (.evs [.call 0 [(.int .i64 7), (.var 3), (.var 4)] none 3]
  (.evs [.call 0 [(.int .i64 30), (.var 6), (.var 7)] none 3]
  (.ite (.cmp .eql (.var 8) (.int .i64 0))
  (.ret [(.int .i64 101), (.ar .sub .i64 (.var 5) (.int .i64 3)), (.var 9), (.var 10)])
  (.ret [(.ar .sub .i64 (.var 2) (.int .i64 3)), (.ar .sub .i64 (.var 5) (.int .i64 3)), (.var 9), (.var 10)])))))
def Fs_l91Direction (cb : CodeB) : List Fun1 := [(F_pickC cb)]
def F_l91Direction (cb : CodeB) : Fun1 := ofTree (Fs_l91Direction cb) tr_l91Direction
def A_l91Direction : AF := absT [A_pickC] tr_l91Direction
theorem aok_l91Direction {cb : CodeB} (hk : CodeOk cb) : AOK cb (F_l91Direction cb) A_l91Direction := tree_aok (AOKs.cons (aok_pickC hk) AOKs.nil) tr_l91Direction

def tr_l91Mat : Tr :=
  (.evs [.call 1 [(.var 0), (.var 1)] none 4]
  (.evs [.call 0 [(.int .i64 4), (.var 4), (.var 5)] none 3]
  (.ite (.cmp .eql (.var 6) (.int .i64 0))
  (.evs [.call 2 [(.var 2), (.var 3)] none 13]
   (.ite (.var 21)
   (.ret [(.var 9), (.var 10), (.var 11), (.var 12), (.var 13), (.var 14), (.var 15), (.var 16), (.var 17), (.var 18), (.var 19), (.var 20), (.var 7), (.var 8)])
   (.evs [.call 5 [(.var 7), (.var 8)] none 5]
    (.evs [.call 5 [(.var 25), (.var 26)] none 5]
    (.evs [.call 5 [(.var 30), (.var 31)] none 5]
    (.evs [.call 5 [(.var 35), (.var 36)] none 5]
    (.ret [(.var 22), (.var 23), (.var 24), (.var 27), (.var 28), (.var 29), (.var 32), (.var 33), (.var 34), (.var 37), (.var 38), (.var 39), (.var 40), (.var 41)])))))))
  (.ite (.cmp .eql (.var 6) (.int .i64 1))
   (.evs [.call 0 [(.int .i64 4), (.var 7), (.var 8)] none 3,
      .call 3 [(.var 2), (.var 3), (.var 9)] none 13]
    (.ite (.var 24)
    (.ret [(.var 12), (.var 13), (.var 14), (.var 15), (.var 16), (.var 17), (.var 18), (.var 19), (.var 20), (.var 21), (.var 22), (.var 23), (.var 10), (.var 11)])
    (.evs [.call 5 [(.var 10), (.var 11)] none 5]
     (.evs [.call 5 [(.var 28), (.var 29)] none 5]
     (.evs [.call 5 [(.var 33), (.var 34)] none 5]
     (.evs [.call 5 [(.var 38), (.var 39)] none 5]
     (.ret [(.var 25), (.var 26), (.var 27), (.var 30), (.var 31), (.var 32), (.var 35), (.var 36), (.var 37), (.var 40), (.var 41), (.var 42), (.var 43), (.var 44)])))))))
   (.ite (.cmp .eql (.var 6) (.int .i64 2))
    (.evs [.call 4 [(.var 2), (.var 3)] none 13]
     (.ite (.var 21)
     (.ret [(.var 9), (.var 10), (.var 11), (.var 12), (.var 13), (.var 14), (.var 15), (.var 16), (.var 17), (.var 18), (.var 19), (.var 20), (.var 7), (.var 8)])
     (.evs [.call 5 [(.var 7), (.var 8)] none 5]
      (.evs [.call 5 [(.var 25), (.var 26)] none 5]
      (.evs [.call 5 [(.var 30), (.var 31)] none 5]
      (.evs [.call 5 [(.var 35), (.var 36)] none 5]
      (.ret [(.var 22), (.var 23), (.var 24), (.var 27), (.var 28), (.var 29), (.var 32), (.var 33), (.var 34), (.var 37), (.var 38), (.var 39), (.var 40), (.var 41)])))))))
    (.evs [.call 5 [(.var 7), (.var 8)] none 5]
     (.evs [.call 5 [(.var 12), (.var 13)] none 5]
     (.evs [.call 5 [(.var 17), (.var 18)] none 5]
     (.evs [.call 5 [(.var 22), (.var 23)] none 5]
     (.ret [(.var 9), (.var 10), (.var 11), (.var 14), (.var 15), (.var 16), (.var 19), (.var 20), (.var 21), (.var 24), (.var 25), (.var 26), (.var 27), (.var 28)]))))))))))
def Fs_l91Mat (cb : CodeB) : List Fun1 := [(F_pickC cb), (F_l91Direction cb), F_sMatRotator, F_sMatPlate, F_sMatFilter, (F_l91Frac cb)]
def F_l91Mat (cb : CodeB) : Fun1 := ofTree (Fs_l91Mat cb) tr_l91Mat
def A_l91Mat : AF := absT [A_pickC, A_l91Direction, A_sMatRotator, A_sMatPlate, A_sMatFilter, A_l91Frac] tr_l91Mat
theorem aok_l91Mat {cb : CodeB} (hk : CodeOk cb) : AOK cb (F_l91Mat cb) A_l91Mat := tree_aok (AOKs.cons (aok_pickC hk) (AOKs.cons (aok_l91Direction hk) (AOKs.cons aok_sMatRotator (AOKs.cons aok_sMatPlate (AOKs.cons aok_sMatFilter (AOKs.cons (aok_l91Frac hk) AOKs.nil)))))) tr_l91Mat

def tr_l92Table : Tr :=
  (.evs [.call 1 [(.var 0), (.var 1)] none 14,
    .call 2 [(.var 2), (.var 3), (.var 4), (.var 5), (.var 6), (.var 7), (.var 8), (.var 9), (.var 10), (.var 11), (.var 12), (.var 13)] none 49]
  (.evs [.call 0 [(.int .i64 5), (.var 14), (.var 15)] (some (.var 64)) 3]
  (.ite (.ite (.var 64) (.cmp .gtr (.var 65) (.int .i64 0)) (.bool false))
  (.ret [(.var 16), (.var 17), (.var 18), (.var 19), (.var 20), (.var 21), (.var 22), (.var 23), (.var 24), (.var 25), (.var 26), (.var 27), (.var 28), (.var 29), (.var 30), (.var 31), (.var 32), (.var 33), (.var 34), (.var 35), (.var 36), (.var 37), (.var 38), (.var 39), (.var 40), (.var 41), (.var 42), (.var 43), (.var 44), (.var 45), (.var 46), (.var 47), (.var 48), (.var 49), (.var 50), (.var 51), (.var 52), (.var 53), (.var 54), (.var 55), (.var 56), (.var 57), (.var 58), (.var 59), (.var 60), (.var 61), (.var 62), (.var 63), (.ite (.var 64) (.var 66) (.var 14)), (.ite (.var 64) (.var 67) (.var 15))])
  (.evs [.call 3 [] none 48]
   (.evs [.call 4 [(.ite (.var 64) (.var 66) (.var 14)), (.ite (.var 64) (.var 67) (.var 15))] none 5]
   (.evs [.call 4 [(.var 119), (.var 120)] none 5]
   (.evs [.call 4 [(.var 124), (.var 125)] none 5]
   (.evs [.call 4 [(.var 129), (.var 130)] none 5]
   (.evs [.call 4 [(.var 134), (.var 135)] none 5]
   (.evs [.call 4 [(.var 139), (.var 140)] none 5]
   (.evs [.call 4 [(.var 144), (.var 145)] none 5]
   (.evs [.call 4 [(.var 149), (.var 150)] none 5]
   (.evs [.call 4 [(.var 154), (.var 155)] none 5]
   (.evs [.call 4 [(.var 159), (.var 160)] none 5]
   (.evs [.call 4 [(.var 164), (.var 165)] none 5]
   (.evs [.call 4 [(.var 169), (.var 170)] none 5]
   (.evs [.call 4 [(.var 174), (.var 175)] none 5]
   (.evs [.call 4 [(.var 179), (.var 180)] none 5]
   (.evs [.call 4 [(.var 184), (.var 185)] none 5]
   (.evs [.call 4 [(.var 189), (.var 190)] none 5]
   (.ret [(.var 116), (.var 117), (.var 118), (.var 121), (.var 122), (.var 123), (.var 126), (.var 127), (.var 128), (.var 131), (.var 132), (.var 133), (.var 136), (.var 137), (.var 138), (.var 141), (.var 142), (.var 143), (.var 146), (.var 147), (.var 148), (.var 151), (.var 152), (.var 153), (.var 156), (.var 157), (.var 158), (.var 161), (.var 162), (.var 163), (.var 166), (.var 167), (.var 168), (.var 171), (.var 172), (.var 173), (.var 176), (.var 177), (.var 178), (.var 181), (.var 182), (.var 183), (.var 186), (.var 187), (.var 188), (.var 191), (.var 192), (.var 193), (.var 194), (.var 195)])))))))))))))))))))))
def Fs_l92Table (cb : CodeB) : List Fun1 := [(F_pickC cb), (F_l91Mat cb), G_sTableOf, F_l6tUnit, (F_l91Real cb)]
def F_l92Table (cb : CodeB) : Fun1 := ofTree (Fs_l92Table cb) tr_l92Table
def A_l92Table : AF := absT [A_pickC, A_l91Mat, A_sTableOf, A_l6tUnit, A_l91Real] tr_l92Table
theorem aok_l92Table {cb : CodeB} (hk : CodeOk cb) : AOK cb (F_l92Table cb) A_l92Table := tree_aok (AOKs.cons (aok_pickC hk) (AOKs.cons (aok_l91Mat hk) (AOKs.cons aok_sTableOf (AOKs.cons aok_l6tUnit (AOKs.cons (aok_l91Real hk) AOKs.nil))))) tr_l92Table

def tr_wholeK1 : Tr :=
  (.ret [])
def Fs_wholeK1 : List Fun1 := []
def F_wholeK1 : Fun1 := ofTree Fs_wholeK1 tr_wholeK1

def tr_iFracCompare : Tr :=
  (.evs [.call 0 [(.var 0), (.var 1), (.var 2)] none 1,
    .call 0 [(.var 3), (.var 4), (.var 5)] (some (.not (.not (.var 6)))) 1]
  (.ite (.ite (.not (.var 6)) (.bool true) (.not (.var 7)))
  (.ret [(.int .i64 0), (.bool false)])
  (.ite (.cmp .lss (.ar .sub .i64 (.ar .mul .i64 (.var 0) (.var 5)) (.ar .mul .i64 (.var 3) (.var 2))) (.int .i64 0))
   (.ret [(.int .i64 (-1)), (.bool true)])
   (.ite (.cmp .gtr (.ar .sub .i64 (.ar .mul .i64 (.var 0) (.var 5)) (.ar .mul .i64 (.var 3) (.var 2))) (.int .i64 0))
    (.ret [(.int .i64 1), (.bool true)])
    (.ret [(.int .i64 0), (.bool true)])))))
def Fs_iFracCompare : List Fun1 := [G_realOk]
def F_iFracCompare : Fun1 := ofTree Fs_iFracCompare tr_iFracCompare
def G_iFracCompare : Fun1 := ⟨fun _ => True, fun ins => [.int .i64 (cmpF (q3 ins 0) (q3 ins 3)), .bool (realQ (q3 ins 0) && realQ (q3 ins 3))]⟩
theorem cmp_facts {a b c x y z : Int} (h : realQ (a, b, c) = true) (k : realQ (x, y, z) = true) : IntKind.i64.wrap (a * z) = a * z ∧ IntKind.i64.wrap (x * c) = x * c ∧ IntKind.i64.wrap (a * z - x * c) = a * z - x * c ∧ I64 (a * z - x * c) := by
  have h := realQ_valid h
  have k := realQ_valid k
  obtain ⟨e1, e2, e3, e4, e5, e6, e7, e8, e9, l1, l2⟩ := sum_facts h k
  exact ⟨e1, e2, e8, (I64_iff _).1 e8⟩
theorem as_iFracCompare (ins : List Value) (ht : TypedL [.int .i64, .int .i64, .int .i64, .int .i64, .int .i64, .int .i64] ins) (_ : G_iFracCompare.pre ins) : F_iFracCompare.pre ins ∧ F_iFracCompare.out ins = G_iFracCompare.out ins := by
  obtain ⟨a, b, c, x, y, z, rfl, _⟩ := ints6 ht
  simp only [F_iFracCompare, G_iFracCompare, tr_iFracCompare, Fs_iFracCompare, G_realOk, cmpF, crossI, q3, arI, ofTree, okT, okE, evalT, evalE, evsIn, ev, callF, preF, hasF, needs, i0, b0, toI_int, toB_bool, List.getD_cons_zero, List.getD_cons_succ, List.cons_append, List.nil_append, List.replicate, if_true, if_false, Bool.false_eq_true, and_true, true_and, implies_true, forall_const, false_implies, cmpI, Bool.not_true, Bool.not_false, Bool.true_and, Bool.false_and, Bool.and_true, Bool.and_false, reduceIte, List.append_nil, reduceCtorEq]
  cases h : realQ (a, b, c)
  · simp [h]
  · cases k : realQ (x, y, z)
    · simp [h, k]
    · obtain ⟨e1, e2, e3, _⟩ := cmp_facts h k
      simp only [h, k, e1, e2, e3, ofTree, okT, okE, evalT, evalE, evsIn, ev, callF, preF, hasF, needs, i0, b0, toI_int, toB_bool, List.getD_cons_zero, List.getD_cons_succ, List.cons_append, List.nil_append, List.replicate, if_true, if_false, Bool.false_eq_true, and_true, true_and, implies_true, forall_const, false_implies, cmpI, Bool.not_true, Bool.not_false, Bool.true_and, Bool.false_and, Bool.and_true, Bool.and_false, reduceIte, List.append_nil, reduceCtorEq]
      unfold sgnI
      generalize a * z - x * c = m
      by_cases h1 : m < 0
      · simp [h1]
      · by_cases h2 : m > 0
        · simp [h1, h2]
        · simp [h1, h2]

def tr_l2Sign : Tr :=
  (.ret [(.mx false .i64 (.int .i64 (-1)) (.mx true .i64 (.int .i64 1) (.var 0)))])
def Fs_l2Sign : List Fun1 := []
def F_l2Sign : Fun1 := ofTree Fs_l2Sign tr_l2Sign

def tr_sFracCompare : Tr :=
  (.evs [.call 0 [(.var 0), (.var 1), (.var 2)] none 1,
    .call 0 [(.var 3), (.var 4), (.var 5)] (some (.not (.not (.var 6)))) 1]
  (.ite (.ite (.ite (.ite (.not (.var 6)) (.bool true) (.not (.var 7))) (.bool true) (.cmp .neq (.var 1) (.int .i64 0))) (.bool true) (.cmp .neq (.var 4) (.int .i64 0)))
  (.ret [(.int .i64 0), (.bool false)])
  (.evs [.call 1 [(.ar .sub .i64 (.ar .mul .i64 (.var 0) (.var 5)) (.ar .mul .i64 (.var 3) (.var 2)))] none 1]
   (.ret [(.var 8), (.bool true)]))))
def Fs_sFracCompare : List Fun1 := [G_sFracValid, F_l2Sign]
def F_sFracCompare : Fun1 := ofTree Fs_sFracCompare tr_sFracCompare
def G_sFracCompare : Fun1 := ⟨fun _ => True, fun ins => [.int .i64 (cmpF (q3 ins 0) (q3 ins 3)), .bool (realQ (q3 ins 0) && realQ (q3 ins 3))]⟩
theorem sgn_mx {m : Int} : mxI false (-1) (mxI true 1 m) = sgnI m := by
  have e : mxI false (-1) (mxI true 1 m) = if (if m < 1 then m else 1) > -1 then (if m < 1 then m else 1) else -1 := rfl
  rw [e]
  unfold sgnI
  by_cases h1 : m < 0
  · rw [if_pos h1, if_pos (by omega : m < 1)]
    split <;> omega
  · rw [if_neg h1]
    by_cases h2 : m > 0
    · rw [if_pos h2]
      by_cases h3 : m < 1
      · omega
      · rw [if_neg h3]; rfl
    · rw [if_neg h2, if_pos (by omega : m < 1)]
      split <;> omega
theorem as_sFracCompare (ins : List Value) (ht : TypedL [.int .i64, .int .i64, .int .i64, .int .i64, .int .i64, .int .i64] ins) (_ : G_sFracCompare.pre ins) : F_sFracCompare.pre ins ∧ F_sFracCompare.out ins = G_sFracCompare.out ins := by
  obtain ⟨a, b, c, x, y, z, rfl, _⟩ := ints6 ht
  simp only [F_sFracCompare, G_sFracCompare, tr_sFracCompare, Fs_sFracCompare, F_l2Sign, tr_l2Sign, Fs_l2Sign, G_sFracValid, cmpF, crossI, q3, arI, sgn_mx, ofTree, okT, okE, evalT, evalE, evsIn, ev, callF, preF, hasF, needs, i0, b0, toI_int, toB_bool, List.getD_cons_zero, List.getD_cons_succ, List.cons_append, List.nil_append, List.replicate, if_true, if_false, Bool.false_eq_true, and_true, true_and, implies_true, forall_const, false_implies, cmpI, Bool.not_true, Bool.not_false, Bool.true_and, Bool.false_and, Bool.and_true, Bool.and_false, reduceIte, List.append_nil, reduceCtorEq]
  have hr : ∀ p q r : Int, realQ (p, q, r) = (validI p q r && (q == 0)) := fun _ _ _ => rfl
  by_cases h : realQ (a, b, c) = true
  · by_cases k : realQ (x, y, z) = true
    · obtain ⟨e1, e2, e3, _⟩ := cmp_facts h k
      rw [h, k]
      rw [hr, Bool.and_eq_true] at h k
      simp only [h.1, k.1, e1, e2, e3, ofTree, okT, okE, evalT, evalE, evsIn, ev, callF, preF, hasF, needs, i0, b0, toI_int, toB_bool, List.getD_cons_zero, List.getD_cons_succ, List.cons_append, List.nil_append, List.replicate, if_true, if_false, Bool.false_eq_true, and_true, true_and, implies_true, forall_const, false_implies, cmpI, Bool.not_true, Bool.not_false, Bool.true_and, Bool.false_and, Bool.and_true, Bool.and_false, reduceIte, List.append_nil, reduceCtorEq]
      have hb : (b != 0) = false := by simpa using h.2
      have hy : (y != 0) = false := by simpa using k.2
      simp [hb, hy]
    · have k : realQ (x, y, z) = false := by simpa using k
      rw [h, k]
      rw [hr, Bool.and_eq_true] at h
      rw [hr] at k
      have hb : (b != 0) = false := by simpa using h.2
      cases kv : validI x y z
      · simp [h.1, kv, hb]
      · have hy : (y != 0) = true := by rw [kv] at k; simpa using k
        simp [h.1, kv, hb, hy]
  · have h : realQ (a, b, c) = false := by simpa using h
    rw [h]
    rw [hr] at h
    cases hv : validI a b c
    · simp [hv]
    · have hb : (b != 0) = true := by rw [hv] at h; simpa using h
      cases kv : validI x y z <;> simp [hv, kv, hb]

def tr_six : Tr :=
  (.evs [.app (.val (.agg #[])) 3 (.cells [])]
  (.evs [.call 0 [] none 0]
  (.evs [.call 2 [(.var 0), (.var 1), (.var 2), (.var 3), (.var 4), (.var 5), (.var 6), (.var 7), (.var 8), (.var 9), (.var 10), (.var 11), (.var 12), (.var 13), (.var 14), (.var 15), (.var 16), (.var 17), (.var 18), (.var 19), (.var 20), (.var 21), (.var 22), (.var 23), (.var 24), (.var 25), (.var 26), (.var 27), (.var 28), (.var 29), (.var 30), (.var 31), (.var 32), (.var 33), (.var 34), (.var 35), (.var 36), (.var 37), (.var 38), (.var 39), (.var 40), (.var 41), (.var 42), (.var 43), (.var 44), (.var 45), (.var 46), (.var 47), (.int .i64 1), (.int .i64 0), (.int .i64 1), (.int .i64 1), (.int .i64 0), (.int .i64 1), (.int .i64 0), (.int .i64 0), (.int .i64 1), (.int .i64 0), (.int .i64 0), (.int .i64 1)] none 13]
  (.ite (.not (.var 62))
  (.ret [(.val (.slice none 0 0)), (.bool false), (.val (.agg #[]))])
  (.evs [.app (.var 49) 3 (.cells [(.var 50), (.var 51), (.var 52)])]
   (.evs [.call 1 [] none 0]
   (.evs [.call 2 [(.var 0), (.var 1), (.var 2), (.var 3), (.var 4), (.var 5), (.var 6), (.var 7), (.var 8), (.var 9), (.var 10), (.var 11), (.var 12), (.var 13), (.var 14), (.var 15), (.var 16), (.var 17), (.var 18), (.var 19), (.var 20), (.var 21), (.var 22), (.var 23), (.var 24), (.var 25), (.var 26), (.var 27), (.var 28), (.var 29), (.var 30), (.var 31), (.var 32), (.var 33), (.var 34), (.var 35), (.var 36), (.var 37), (.var 38), (.var 39), (.var 40), (.var 41), (.var 42), (.var 43), (.var 44), (.var 45), (.var 46), (.var 47), (.int .i64 1), (.int .i64 0), (.int .i64 1), (.int .i64 (-1)), (.int .i64 0), (.int .i64 1), (.int .i64 0), (.int .i64 0), (.int .i64 1), (.int .i64 0), (.int .i64 0), (.int .i64 1)] none 13]
   (.ite (.not (.var 77))
   (.ret [(.val (.slice none 0 0)), (.bool false), (.val (.agg #[]))])
   (.evs [.app (.var 64) 3 (.cells [(.var 65), (.var 66), (.var 67)])]
    (.evs [.call 0 [] none 0]
    (.evs [.call 2 [(.var 0), (.var 1), (.var 2), (.var 3), (.var 4), (.var 5), (.var 6), (.var 7), (.var 8), (.var 9), (.var 10), (.var 11), (.var 12), (.var 13), (.var 14), (.var 15), (.var 16), (.var 17), (.var 18), (.var 19), (.var 20), (.var 21), (.var 22), (.var 23), (.var 24), (.var 25), (.var 26), (.var 27), (.var 28), (.var 29), (.var 30), (.var 31), (.var 32), (.var 33), (.var 34), (.var 35), (.var 36), (.var 37), (.var 38), (.var 39), (.var 40), (.var 41), (.var 42), (.var 43), (.var 44), (.var 45), (.var 46), (.var 47), (.int .i64 1), (.int .i64 0), (.int .i64 1), (.int .i64 0), (.int .i64 0), (.int .i64 1), (.int .i64 1), (.int .i64 0), (.int .i64 1), (.int .i64 0), (.int .i64 0), (.int .i64 1)] none 13]
    (.ite (.not (.var 92))
    (.ret [(.val (.slice none 0 0)), (.bool false), (.val (.agg #[]))])
    (.evs [.app (.var 79) 3 (.cells [(.var 80), (.var 81), (.var 82)])]
     (.evs [.call 1 [] none 0]
     (.evs [.call 2 [(.var 0), (.var 1), (.var 2), (.var 3), (.var 4), (.var 5), (.var 6), (.var 7), (.var 8), (.var 9), (.var 10), (.var 11), (.var 12), (.var 13), (.var 14), (.var 15), (.var 16), (.var 17), (.var 18), (.var 19), (.var 20), (.var 21), (.var 22), (.var 23), (.var 24), (.var 25), (.var 26), (.var 27), (.var 28), (.var 29), (.var 30), (.var 31), (.var 32), (.var 33), (.var 34), (.var 35), (.var 36), (.var 37), (.var 38), (.var 39), (.var 40), (.var 41), (.var 42), (.var 43), (.var 44), (.var 45), (.var 46), (.var 47), (.int .i64 1), (.int .i64 0), (.int .i64 1), (.int .i64 0), (.int .i64 0), (.int .i64 1), (.int .i64 (-1)), (.int .i64 0), (.int .i64 1), (.int .i64 0), (.int .i64 0), (.int .i64 1)] none 13]
     (.ite (.not (.var 107))
     (.ret [(.val (.slice none 0 0)), (.bool false), (.val (.agg #[]))])
     (.evs [.app (.var 94) 3 (.cells [(.var 95), (.var 96), (.var 97)])]
      (.evs [.call 0 [] none 0]
      (.evs [.call 2 [(.var 0), (.var 1), (.var 2), (.var 3), (.var 4), (.var 5), (.var 6), (.var 7), (.var 8), (.var 9), (.var 10), (.var 11), (.var 12), (.var 13), (.var 14), (.var 15), (.var 16), (.var 17), (.var 18), (.var 19), (.var 20), (.var 21), (.var 22), (.var 23), (.var 24), (.var 25), (.var 26), (.var 27), (.var 28), (.var 29), (.var 30), (.var 31), (.var 32), (.var 33), (.var 34), (.var 35), (.var 36), (.var 37), (.var 38), (.var 39), (.var 40), (.var 41), (.var 42), (.var 43), (.var 44), (.var 45), (.var 46), (.var 47), (.int .i64 1), (.int .i64 0), (.int .i64 1), (.int .i64 0), (.int .i64 0), (.int .i64 1), (.int .i64 0), (.int .i64 0), (.int .i64 1), (.int .i64 1), (.int .i64 0), (.int .i64 1)] none 13]
      (.ite (.not (.var 122))
      (.ret [(.val (.slice none 0 0)), (.bool false), (.val (.agg #[]))])
      (.evs [.app (.var 109) 3 (.cells [(.var 110), (.var 111), (.var 112)])]
       (.evs [.call 1 [] none 0]
       (.evs [.call 2 [(.var 0), (.var 1), (.var 2), (.var 3), (.var 4), (.var 5), (.var 6), (.var 7), (.var 8), (.var 9), (.var 10), (.var 11), (.var 12), (.var 13), (.var 14), (.var 15), (.var 16), (.var 17), (.var 18), (.var 19), (.var 20), (.var 21), (.var 22), (.var 23), (.var 24), (.var 25), (.var 26), (.var 27), (.var 28), (.var 29), (.var 30), (.var 31), (.var 32), (.var 33), (.var 34), (.var 35), (.var 36), (.var 37), (.var 38), (.var 39), (.var 40), (.var 41), (.var 42), (.var 43), (.var 44), (.var 45), (.var 46), (.var 47), (.int .i64 1), (.int .i64 0), (.int .i64 1), (.int .i64 0), (.int .i64 0), (.int .i64 1), (.int .i64 0), (.int .i64 0), (.int .i64 1), (.int .i64 (-1)), (.int .i64 0), (.int .i64 1)] none 13]
       (.ite (.not (.var 137))
       (.ret [(.val (.slice none 0 0)), (.bool false), (.val (.agg #[]))])
       (.evs [.app (.var 124) 3 (.cells [(.var 125), (.var 126), (.var 127)])]
        (.ret [(.var 138), (.bool true), (.var 139)]))))))))))))))))))))))))))
def Fs_six : List Fun1 := [F_wholeK1, F_wholeM, G_iTableApply]
-- part kinds
/-- Whether the table (forty-eight numbers) can be done to the k-th kind, and the first number that it makes. -/
def kOk (l : List Value) (k : Nat) : Bool := nttT 4 (apQ (l ++ kd k)) (apD (l ++ kd k))
def kX (l : List Value) (k : Nat) : Q := tri (nttH 4 (apQ (l ++ kd k)) (apD (l ++ kd k))) 0
/-- The first numbers, one after the other. -/
def sixV (l : List Value) : Nat → List Value
  | 0 => []
  | k + 1 => sixV l k ++ vQ (kX l k)
theorem sixV_len (l : List Value) : ∀ k, (sixV l k).length = k * 3
  | 0 => rfl
  | k + 1 => by rw [sixV, List.length_append, sixV_len l k]; simp [vQ]; omega
theorem kd_get (g : Nat → Int) (k : Nat) : (∀ j, j < 16 → q3 (ivs g 0 48 ++ kd k) (3 * j) = tri g (3 * j)) ∧ ∀ j, j < 4 → q3 (ivs g 0 48 ++ kd k) (48 + 3 * j) = q3 (kd k) (3 * j) :=
  ⟨get16 rfl rfl rfl rfl rfl rfl rfl rfl rfl rfl rfl rfl rfl rfl rfl rfl, get4 rfl rfl rfl rfl⟩
theorem kd_val {k : Nat} (hk : k < 6) : ∃ s : Rat, (s = 1 ∨ s = -1) ∧ s = (if k % 2 = 0 then 1 else -1) ∧ ∀ x : Nat → Rat, x 0 * reR (q3 (kd k) (3 * 0)) + x 1 * reR (q3 (kd k) (3 * 1)) + x 2 * reR (q3 (kd k) (3 * 2)) + x 3 * reR (q3 (kd k) (3 * 3)) = x 0 + s * x (1 + k / 2) := by
  have r1 : reR (1, 0, 1) = 1 := by decide +kernel
  have r0 : reR (0, 0, 1) = 0 := by decide +kernel
  have rm : reR (-1, 0, 1) = -1 := by decide +kernel
  rcases (by omega : k = 0 ∨ k = 1 ∨ k = 2 ∨ k = 3 ∨ k = 4 ∨ k = 5) with rfl | rfl | rfl | rfl | rfl | rfl
  · exact ⟨1, .inl rfl, rfl, fun x => by show x 0 * reR (1, 0, 1) + x 1 * reR (1, 0, 1) + x 2 * reR (0, 0, 1) + x 3 * reR (0, 0, 1) = x 0 + 1 * x 1; rw [r1, r0]; grind⟩
  · exact ⟨-1, .inr rfl, rfl, fun x => by show x 0 * reR (1, 0, 1) + x 1 * reR (-1, 0, 1) + x 2 * reR (0, 0, 1) + x 3 * reR (0, 0, 1) = x 0 + -1 * x 1; rw [r1, r0, rm]; grind⟩
  · exact ⟨1, .inl rfl, rfl, fun x => by show x 0 * reR (1, 0, 1) + x 1 * reR (0, 0, 1) + x 2 * reR (1, 0, 1) + x 3 * reR (0, 0, 1) = x 0 + 1 * x 2; rw [r1, r0]; grind⟩
  · exact ⟨-1, .inr rfl, rfl, fun x => by show x 0 * reR (1, 0, 1) + x 1 * reR (0, 0, 1) + x 2 * reR (-1, 0, 1) + x 3 * reR (0, 0, 1) = x 0 + -1 * x 2; rw [r1, r0, rm]; grind⟩
  · exact ⟨1, .inl rfl, rfl, fun x => by show x 0 * reR (1, 0, 1) + x 1 * reR (0, 0, 1) + x 2 * reR (0, 0, 1) + x 3 * reR (1, 0, 1) = x 0 + 1 * x 3; rw [r1, r0]; grind⟩
  · exact ⟨-1, .inr rfl, rfl, fun x => by show x 0 * reR (1, 0, 1) + x 1 * reR (0, 0, 1) + x 2 * reR (0, 0, 1) + x 3 * reR (-1, 0, 1) = x 0 + -1 * x 3; rw [r1, r0, rm]; grind⟩
theorem kX_of {l : List Value} {t : Nat → Q} {k : Nat} (hk : k < 6) (e1 : ∀ j, j < 16 → q3 (l ++ kd k) (3 * j) = t j) (e2 : ∀ j, j < 4 → q3 (l ++ kd k) (48 + 3 * j) = q3 (kd k) (3 * j)) (h : kOk l k = true) :
    realQ (kX l k) = true ∧ (∀ j, j < 16 → realQ (t j) = true) ∧ reR (kX l k) = reR (t 0) + (if k % 2 = 0 then 1 else -1) * reR (t (1 + k / 2)) := by
  have h : nttT 4 (apQ (l ++ kd k)) (apD (l ++ kd k)) = true := h
  obtain ⟨o1, o2⟩ := nttT_ok h
  unfold apQ at o1
  rw [Bool.and_eq_true] at o1
  have ht : ∀ j, j < 16 → realQ (t j) = true := fun j hj => by rw [← e1 j hj]; exact tab_get o1.1 j hj
  have hs : ∀ j, j < 4 → realQ (q3 (kd k) (3 * j)) = true := kd_real k hk
  obtain ⟨v, hv⟩ := o2 0 (by omega)
  have hx : tri (nttH 4 (apQ (l ++ kd k)) (apD (l ++ kd k))) (3 * 0) = v := ntt_tri h hv
  have hx : kX l k = v := hx
  unfold apD at hv
  rw [dot_congr (row_congr e1 (by omega : 0 < 4)) e2] at hv
  obtain ⟨d1, d2, d3⟩ := dot_val hv (fun j hj => realQ_im (ht (4 * 0 + j) (by omega))) (fun j hj => realQ_im (hs j hj))
  obtain ⟨s, _, hs1, hs2⟩ := kd_val hk
  rw [hx]
  refine ⟨realQ_of d3 d2, ht, ?_⟩
  rw [d1, ← hs1]
  have := hs2 fun j => reR (rowF t 0 j)
  refine this.trans ?_
  unfold rowF
  simp only [Nat.mul_zero, Nat.zero_add]
/-- The first number is real, and what it is. -/
theorem kX_real {g : Nat → Int} {k : Nat} (hk : k < 6) (h : kOk (ivs g 0 48) k = true) : realQ (kX (ivs g 0 48) k) = true ∧ (∀ j, j < 16 → realQ (tri g (3 * j)) = true) ∧
    reR (kX (ivs g 0 48) k) = reR (tri g 0) + (if k % 2 = 0 then 1 else -1) * reR (tri g (3 * (1 + k / 2))) :=
  kX_of (t := fun j => tri g (3 * j)) hk (kd_get g k).1 (kd_get g k).2 h
theorem allB_false {p : Nat → Bool} : ∀ {n k : Nat}, allB p k n = false → ∃ i, k ≤ i ∧ i < k + n ∧ p i = false
  | 0, k, h => by cases h
  | n + 1, k, h => by
    rw [allB, Bool.and_eq_false_iff] at h
    rcases h with h | h
    · exact ⟨k, Nat.le_refl _, by omega, h⟩
    · obtain ⟨i, h1, h2, h3⟩ := allB_false h
      exact ⟨i, by omega, by omega, h3⟩
theorem sixV_get (l : List Value) : ∀ (n k j : Nat), k < n → j < 3 → (sixV l n).getD (k * 3 + j) undef = (vQ (kX l k)).getD j undef
  | 0, k, j, h, _ => by omega
  | n + 1, k, j, h, hj => by
    rw [sixV]
    by_cases hk : k < n
    · rw [← sixV_get l n k j hk hj]
      simp only [List.getD_eq_getElem?_getD]
      rw [List.getElem?_append_left (by rw [sixV_len]; omega)]
    · obtain rfl : k = n := by omega
      simp only [List.getD_eq_getElem?_getD]
      rw [List.getElem?_append_right (by rw [sixV_len]; omega), sixV_len, show k * 3 + j - k * 3 = j by omega]
theorem six_sel (l : List Value) {n k j : Nat} (hk : k < n) (hj : j < 3) : (Value.agg (sixV l n).toArray).cells.getD (k * 3 + j) undef = (vQ (kX l k)).getD j undef := by
  rw [← sixV_get l n k j hk hj]
  show (sixV l n).toArray.getD _ _ = _
  simp [Array.getD_eq_getD_getElem?, List.getD_eq_getElem?_getD]
theorem rq3_six (l : List Value) {n k : Nat} (hk : k < n) : rq3 (.agg (sixV l n).toArray) k = kX l k := by
  unfold rq3
  rw [six_sel l hk (by omega : 0 < 3), six_sel l hk (by omega : 1 < 3), six_sel l hk (by omega : 2 < 3)]
  rfl
theorem six_size (l : List Value) (n : Nat) : (Value.agg (sixV l n).toArray).cells.size = n * 3 := by
  show (sixV l n).toArray.size = _
  rw [List.size_toArray, sixV_len]
theorem grt_congr {x y : Nat → Q} : ∀ {n : Nat}, (∀ j, j < n → x j = y j) → grt x n = grt y n
  | 0, _ => rfl
  | n + 1, h => by
    have e := grt_congr (n := n) fun j hj => h j (by omega)
    have hl : grt y n < n + 1 := by
      rcases Nat.eq_zero_or_pos n with rfl | hp
      · exact Nat.zero_lt_one
      · have := grt_lt y n hp; omega
    rw [grt, grt, e, h n (by omega), h _ hl]
/-- The greatest one, or nothing. -/
def enQ (l : List Value) : Q := if allB (kOk l) 0 6 = true then kX l (grt (kX l) 6) else zq
def enV (l : List Value) : List Value := vQ (enQ l) ++ [.bool (allB (kOk l) 0 6)]
theorem enV_true {l : List Value} (h : allB (kOk l) 0 6 = true) : enV l = vQ (kX l (grt (kX l) 6)) ++ [.bool true] := by
  unfold enV enQ
  rw [if_pos h, h]
theorem enV_false {l : List Value} (h : allB (kOk l) 0 6 = false) : enV l = zeros 3 ++ [.bool false] := by
  unfold enV enQ
  rw [h]
  rfl
def enB (l : List Value) : Bool := allB (kOk l) 0 6
def SP_six : Spec := fun ins K => (allB (kOk ins) 0 6 = true → ∀ a cap, K [.slice a 6 cap, .bool true, .agg (sixV ins 6).toArray]) ∧ (allB (kOk ins) 0 6 = false → K [.slice none 0 0, .bool false, .agg #[]])
/-- One round after the other. -/
def rndP (l : List Value) (K : List Value → Prop) : List Prop → Nat → Value → Array Value → Prop
  | [], _, s, c => K [s, .bool true, .agg c]
  | p :: r, k, s, c => p ∧ True ∧ (Value.bool (!(nttT 4 (apQ (l ++ kd k)) (apD (l ++ kd k)))) = .bool true → K [.slice none 0 0, .bool false, .agg #[]]) ∧
      (Value.bool (!(nttT 4 (apQ (l ++ kd k)) (apD (l ++ kd k)))) = .bool false → c.size + 3 ≤ 1099511627776 ∧
        ∀ a len cap, HasTy .sl (.slice a len cap) → len * 3 = c.size + 3 → rndP l K r (k + 1) (.slice a len cap) (c ++ [Value.int .i64 (nttH 4 (apQ (l ++ kd k)) (apD (l ++ kd k)) 0), .int .i64 (nttH 4 (apQ (l ++ kd k)) (apD (l ++ kd k)) 1), .int .i64 (nttH 4 (apQ (l ++ kd k)) (apD (l ++ kd k)) 2)].toArray))
theorem six_eq : (fun (P : Program) (g : Nat → Int) (K : List Value → Prop) => sat P (specsOf Fs_six) tr_six (ivs g 0 48) [] K) = fun P g K =>
    (0 + 0 ≤ 1099511627776 ∧ ∀ a len cap, HasTy .sl (.slice a len cap) → len * 3 = 0 + 0 → rndP (ivs g 0 48) K [F_wholeK1.pre [], F_wholeM.pre [], F_wholeK1.pre [], F_wholeM.pre [], F_wholeK1.pre [], F_wholeM.pre []] 0 (.slice a len cap) #[]) := by kernel_rfl
theorem rnd_ok {l : List Value} {K : List Value → Prop} (hT : allB (kOk l) 0 6 = true → ∀ a cap, K [.slice a 6 cap, .bool true, .agg (sixV l 6).toArray]) (hF : ∀ k, k < 6 → kOk l k = false → K [.slice none 0 0, .bool false, .agg #[]]) :
    ∀ (ps : List Prop) (k : Nat) (a : Option Addr) (cap : Nat), (∀ p ∈ ps, p) → ps.length + k = 6 → allB (kOk l) 0 k = true → rndP l K ps k (.slice a k cap) (sixV l k).toArray
  | [], k, a, cap, _, hk, hall => by
    obtain rfl : k = 6 := by simpa using hk
    exact hT hall a cap
  | p :: r, k, a, cap, hp, hk, hall => by
    have hk : r.length + 1 + k = 6 := hk
    refine ⟨hp p List.mem_cons_self, trivial, fun h => ?_, fun h => ?_⟩
    · have h : (!(kOk l k)) = true := Value.bool.inj h
      exact hF k (by omega) (by simpa using h)
    · have h : (!(kOk l k)) = false := Value.bool.inj h
      have hs : (sixV l k).toArray.size = k * 3 := by rw [List.size_toArray, sixV_len]
      refine ⟨by rw [hs]; omega, fun a' len cap' ht hl => ?_⟩
      rw [hs] at hl
      obtain rfl : len = k + 1 := by omega
      have e : (sixV l k).toArray ++ [Value.int .i64 (nttH 4 (apQ (l ++ kd k)) (apD (l ++ kd k)) 0), .int .i64 (nttH 4 (apQ (l ++ kd k)) (apD (l ++ kd k)) 1), .int .i64 (nttH 4 (apQ (l ++ kd k)) (apD (l ++ kd k)) 2)].toArray = (sixV l (k + 1)).toArray := by
        rw [List.append_toArray]; rfl
      rw [e]
      refine rnd_ok hT hF r (k + 1) a' cap' (fun q hq => hp q (List.mem_cons_of_mem _ hq)) (by omega) ?_
      rw [allB_snoc, hall, Nat.zero_add]
      simpa using h
theorem sat_six (P : Program) (ins : List Value) (K : List Value → Prop) (ht : TypedL (intTs 48 ++ []) ins) (h : SP_six ins K) : sat P (specsOf Fs_six) tr_six ins [] K := by
  obtain ⟨g, r, rfl, h1, _⟩ := ints_lit 48 0 ht
  obtain rfl := ints0 h1
  rw [List.append_nil] at *
  obtain ⟨hT, hF⟩ := h
  refine Eq.mpr (congrFun (congrFun (congrFun six_eq P) g) K) ⟨by omega, fun a len cap hty hl => ?_⟩
  obtain rfl : len = 0 := by omega
  have pw : F_wholeK1.pre [] := okT_free (fun F hF => by cases hF) _ _ (by kernel_rfl)
  have pm : F_wholeM.pre [] := okT_free (fun F hF => by cases hF) _ _ (by kernel_rfl)
  refine rnd_ok hT (fun k hk hb => hF ?_) _ 0 a cap ?_ rfl rfl
  · cases ha : allB (kOk (ivs g 0 48)) 0 6 with
    | false => rfl
    | true => rw [allB_get ha k (Nat.zero_le _) (by omega)] at hb; cases hb
  · intro p hp
    simp only [List.mem_cons, List.not_mem_nil, or_false] at hp
    rcases hp with rfl | rfl | rfl | rfl | rfl | rfl
    · exact pw
    · exact pm
    · exact pw
    · exact pm
    · exact pw
    · exact pm

def tr_iTableKeeps : Tr :=
  (.evs [.call 0 [(.var 0), (.var 1), (.var 2), (.var 3), (.var 4), (.var 5), (.var 6), (.var 7), (.var 8), (.var 9), (.var 10), (.var 11), (.var 12), (.var 13), (.var 14), (.var 15), (.var 16), (.var 17), (.var 18), (.var 19), (.var 20), (.var 21), (.var 22), (.var 23), (.var 24), (.var 25), (.var 26), (.var 27), (.var 28), (.var 29), (.var 30), (.var 31), (.var 32), (.var 33), (.var 34), (.var 35), (.var 36), (.var 37), (.var 38), (.var 39), (.var 40), (.var 41), (.var 42), (.var 43), (.var 44), (.var 45), (.var 46), (.var 47)] none 3]
  (.lp 0 [(.int .i64 0), (.var 49)] [.int .i64, .bool]
  (.ite (.cmp .lss (.var 51) (.len (.var 48)))
   (.evs [.need [(.inb (.var 50) (.var 51) 3)]]
    (.evs [.call 1 [(.sel (.var 50) (.var 51) 3 0), (.sel (.var 50) (.var 51) 3 1), (.sel (.var 50) (.var 51) 3 2), (.int .i64 0), (.int .i64 0), (.int .i64 1)] none 2]
    (.evs [.call 1 [(.sel (.var 50) (.var 51) 3 0), (.sel (.var 50) (.var 51) 3 1), (.sel (.var 50) (.var 51) 3 2), (.int .i64 1), (.int .i64 0), (.int .i64 1)] none 2]
    (.next 0 [(.ar .add .i64 (.var 51) (.int .i64 1)), (.ite (.ite (.var 52) (.cmp .geq (.var 53) (.int .i64 0)) (.bool false)) (.cmp .leq (.var 55) (.int .i64 0)) (.bool false))]))))
   (.ret [(.var 52)]))))
def Ss_iTableKeeps : List Spec := [SP_six, G_iFracCompare.spec]
def F_iTableKeeps : Fun1 := ⟨fun _ => True, fun ins => [.bool (allB (kOk ins) 0 6 && allB (fun k => inUnit (kX ins k)) 0 6)]⟩
theorem sat_iTableKeeps (P : Program) (ins : List Value) (K : List Value → Prop) (ht : TypedL (intTs 48 ++ []) ins) (_ : F_iTableKeeps.pre ins) (hK : K (F_iTableKeeps.out ins)) : sat P Ss_iTableKeeps tr_iTableKeeps ins [] K := by
  obtain ⟨g, r, rfl, h1, _⟩ := ints_lit 48 0 ht
  obtain rfl := ints0 h1
  rw [List.append_nil] at *
  have hK : K [.bool (allB (kOk (ivs g 0 48)) 0 6 && allB (fun k => inUnit (kX (ivs g 0 48) k)) 0 6)] := hK
  refine evs_step (call_step (sp := SP_six) rfl ?_)
  show SP_six (ivs g 0 48) _
  refine ⟨fun ha a cap => evs_nil ?_, fun ha => evs_nil ?_⟩
  · rw [ha, Bool.true_and] at hK
    refine ⟨fun vs => ∃ k : Nat, vs = [.int .i64 k, .bool (allB (fun k => inUnit (kX (ivs g 0 48) k)) 0 k)] ∧ k ≤ 6, fun vs => 6 - (toI (vs.getD 0 undef)).toNat, ⟨0, rfl, Nat.zero_le _⟩, ?_⟩
    rintro vs hty ⟨k, rfl, hk⟩
    refine ⟨fun h => ?_, fun h => ?_⟩
    · have hlt : k < 6 := by
        have : decide ((k : Int) < ((6 : Nat) : Int)) = true := Value.bool.inj h
        have := of_decide_eq_true this
        omega
      have hin := inb_ok3 (six_size (ivs g 0 48) 6) hlt
      refine ⟨fun e he => by rw [List.mem_singleton.1 he]; exact hin, evs_nil ?_⟩
      refine evs_step (call_step (sp := G_iFracCompare.spec) rfl ⟨trivial, evs_nil ?_⟩)
      refine evs_step (call_step (sp := G_iFracCompare.spec) rfl ⟨trivial, evs_nil ?_⟩)
      have hx : rq3 (.agg (sixV (ivs g 0 48) 6).toArray) k = kX (ivs g 0 48) k := rq3_six _ hlt
      have hv : (if toB (if toB (.bool (allB (fun k => inUnit (kX (ivs g 0 48) k)) 0 k)) = true then Value.bool (decide (cmpF (rq3 (.agg (sixV (ivs g 0 48) 6).toArray) k) nil1 ≥ 0)) else .bool false) = true then Value.bool (decide (cmpF (rq3 (.agg (sixV (ivs g 0 48) 6).toArray) k) oneQ ≤ 0)) else .bool false) = .bool (allB (fun k => inUnit (kX (ivs g 0 48) k)) 0 (k + 1)) := by
        rw [hx, allB_snoc, Nat.zero_add]
        unfold inUnit
        generalize decide (cmpF (kX (ivs g 0 48) k) nil1 ≥ 0) = p
        generalize decide (cmpF (kX (ivs g 0 48) k) oneQ ≤ 0) = q
        generalize allB _ 0 k = s
        cases s <;> cases p <;> simp
      refine ⟨⟨k + 1, ?_, by omega⟩, ?_⟩
      · show [Value.int .i64 (IntKind.i64.wrap ((k : Int) + 1)), _] = _
        rw [wrap_next hlt (by omega)]
        exact congrArg (fun z => [Value.int .i64 ((k + 1 : Nat) : Int), z]) hv
      · show 6 - (toI (.int .i64 (IntKind.i64.wrap ((k : Int) + 1)))).toNat < 6 - (toI (.int .i64 (k : Int))).toNat
        rw [wrap_next hlt (by omega : 6 ≤ 9223372036854775807)]
        simp only [toI_int, Int.toNat_natCast]
        omega
    · have hge : ¬ k < 6 := by
        have : decide ((k : Int) < ((6 : Nat) : Int)) = false := Value.bool.inj h
        have := of_decide_eq_false this
        omega
      obtain rfl : k = 6 := by omega
      exact hK
  · rw [ha, Bool.false_and] at hK
    refine ⟨fun vs => ∃ z : Int, vs = [.int .i64 0, .bool false], fun vs => 0, ⟨0, rfl⟩, ?_⟩
    rintro vs hty ⟨_, rfl⟩
    exact ⟨fun h => (by cases h), fun h => hK⟩

def tr_greatest : Tr :=
  (.lp 0 [(.int .i64 0), (.int .i64 0)] [.int .i64, .int .i64]
  (.ite (.cmp .lss (.var 2) (.len (.var 0)))
   (.evs [.need [(.inb (.var 1) (.var 2) 3), (.inb (.var 1) (.var 3) 3)],
      .need [(.inb (.var 1) (.var 2) 3), (.inb (.var 1) (.var 3) 3)],
      .call 0 [(.sel (.var 1) (.var 2) 3 0), (.sel (.var 1) (.var 2) 3 1), (.sel (.var 1) (.var 2) 3 2), (.sel (.var 1) (.var 3) 3 0), (.sel (.var 1) (.var 3) 3 1), (.sel (.var 1) (.var 3) 3 2)] none 2]
    (.ite (.cmp .gtr (.var 4) (.int .i64 0))
    (.next 0 [(.ar .add .i64 (.var 2) (.int .i64 1)), (.var 2)])
    (.next 0 [(.ar .add .i64 (.var 2) (.int .i64 1)), (.var 3)])))
   (.ret [(.var 3)])))
def Fs_greatest : List Fun1 := [G_iFracCompare]
def F_greatest : Fun1 := ⟨fun ins => Fit3 (ins.getD 0 undef) (ins.getD 1 undef), fun ins => [.int .i64 ((grt (rq3 (ins.getD 1 undef)) (rlen (ins.getD 0 undef)) : Nat) : Int)]⟩
theorem sat_greatest (P : Program) (ins : List Value) (K : List Value → Prop) (ht : TypedL [.sl, .row .i64 3] ins) (hp : F_greatest.pre ins) (hK : K (F_greatest.out ins)) : sat P (specsOf Fs_greatest) tr_greatest ins [] K := by
  obtain ⟨x, c, rfl, hx, hcT⟩ := two_of ht
  obtain ⟨a, n, cap, rfl, hc, hn⟩ : Fit3 x c := hp
  have hK : K [.int .i64 ((grt (rq3 c) n : Nat) : Int)] := hK
  refine ⟨fun vs => ∃ k : Nat, vs = [.int .i64 k, .int .i64 ((grt (rq3 c) k : Nat) : Int)] ∧ k ≤ n, fun vs => n - (toI (vs.getD 0 undef)).toNat, ⟨0, rfl, Nat.zero_le _⟩, ?_⟩
  rintro vs hty ⟨k, rfl, hk⟩
  refine ⟨fun h => ?_, fun h => ?_⟩
  · have hlt : k < n := by
      have : decide ((k : Int) < (n : Int)) = true := Value.bool.inj h
      simpa using this
    have hgl : grt (rq3 c) k < n := by
      rcases Nat.eq_zero_or_pos k with rfl | hp
      · exact hlt
      · have := grt_lt (rq3 c) k hp; omega
    have hin := inb_ok3 hc hlt
    have hin2 := inb_ok3 hc hgl
    have hall2 : ∀ e ∈ ([.inb (.var 1) (.var 2) 3, .inb (.var 1) (.var 3) 3] : List Ex), ev ([.slice a n cap, c] ++ [.int .i64 k, .int .i64 ((grt (rq3 c) k : Nat) : Int)]) e = .bool true := by
      intro e he
      simp only [List.mem_cons, List.not_mem_nil, or_false] at he
      rcases he with rfl | rfl
      · exact hin
      · exact hin2
    refine ⟨hall2, hall2, trivial, ?_⟩
    have done : 0 ≤ 0 → n - (toI (.int .i64 (IntKind.i64.wrap ((k : Int) + 1)))).toNat < n - (toI (.int .i64 (k : Int))).toNat := fun _ => by
      rw [wrap_next hlt hn]
      simp only [toI_int, Int.toNat_natCast]
      omega
    refine ⟨fun h2 => ?_, fun h2 => ?_⟩
    · have h2 : decide (cmpF (rq3 c k) (rq3 c (grt (rq3 c) k)) > 0) = true := Value.bool.inj h2
      have h2 := of_decide_eq_true h2
      refine ⟨⟨k + 1, ?_, by omega⟩, done (Nat.le_refl _)⟩
      show [Value.int .i64 (IntKind.i64.wrap ((k : Int) + 1)), Value.int .i64 (k : Int)] = _
      rw [wrap_next hlt hn, grt, if_pos h2]
    · have h2 : decide (cmpF (rq3 c k) (rq3 c (grt (rq3 c) k)) > 0) = false := Value.bool.inj h2
      have h2 := of_decide_eq_false h2
      refine ⟨⟨k + 1, ?_, by omega⟩, done (Nat.le_refl _)⟩
      show [Value.int .i64 (IntKind.i64.wrap ((k : Int) + 1)), Value.int .i64 ((grt (rq3 c) k : Nat) : Int)] = _
      rw [wrap_next hlt hn, grt, if_neg h2]
  · have hge : ¬ k < n := by
      have : decide ((k : Int) < (n : Int)) = false := Value.bool.inj h
      simpa using this
    obtain rfl : k = n := by omega
    exact hK

def tr_iTableEnergy : Tr :=
  (.evs [.call 0 [(.var 0), (.var 1), (.var 2), (.var 3), (.var 4), (.var 5), (.var 6), (.var 7), (.var 8), (.var 9), (.var 10), (.var 11), (.var 12), (.var 13), (.var 14), (.var 15), (.var 16), (.var 17), (.var 18), (.var 19), (.var 20), (.var 21), (.var 22), (.var 23), (.var 24), (.var 25), (.var 26), (.var 27), (.var 28), (.var 29), (.var 30), (.var 31), (.var 32), (.var 33), (.var 34), (.var 35), (.var 36), (.var 37), (.var 38), (.var 39), (.var 40), (.var 41), (.var 42), (.var 43), (.var 44), (.var 45), (.var 46), (.var 47)] none 3]
  (.ite (.not (.var 49))
  (.ret [(.int .i64 0), (.int .i64 0), (.int .i64 0), (.bool false)])
  (.evs [.call 1 [(.var 48), (.var 50)] none 1,
     .need [(.inb (.var 50) (.var 51) 3)]]
   (.ret [(.sel (.var 50) (.var 51) 3 0), (.sel (.var 50) (.var 51) 3 1), (.sel (.var 50) (.var 51) 3 2), (.bool true)]))))
def Ss_iTableEnergy : List Spec := [SP_six, F_greatest.spec]
def F_iTableEnergy : Fun1 := ⟨fun _ => True, fun ins => enV ins⟩
theorem sat_iTableEnergy (P : Program) (ins : List Value) (K : List Value → Prop) (ht : TypedL (intTs 48 ++ []) ins) (_ : F_iTableEnergy.pre ins) (hK : K (F_iTableEnergy.out ins)) : sat P Ss_iTableEnergy tr_iTableEnergy ins [] K := by
  obtain ⟨g, r, rfl, h1, _⟩ := ints_lit 48 0 ht
  obtain rfl := ints0 h1
  rw [List.append_nil] at *
  have hK : K (enV (ivs g 0 48)) := hK
  refine evs_step (call_step (sp := SP_six) rfl ?_)
  show SP_six (ivs g 0 48) _
  refine ⟨fun ha a cap => evs_nil ?_, fun ha => evs_nil ?_⟩
  · rw [enV_true ha] at hK
    refine ⟨fun h => (by cases h), fun _ => ?_⟩
    refine evs_step (call_step (sp := F_greatest.spec) rfl ⟨⟨a, 6, cap, rfl, six_size _ 6, by omega⟩, ?_⟩)
    have e : grt (rq3 (.agg (sixV (ivs g 0 48) 6).toArray)) 6 = grt (kX (ivs g 0 48)) 6 := grt_congr fun j hj => rq3_six _ hj
    have hlt := grt_lt (kX (ivs g 0 48)) 6 (by omega)
    show evSat P _ _ (_ ++ [.int .i64 ((grt (rq3 (.agg (sixV (ivs g 0 48) 6).toArray)) 6 : Nat) : Int)]) _
    rw [e]
    generalize grt (kX (ivs g 0 48)) 6 = m at *
    refine ⟨fun e he => by rw [List.mem_singleton.1 he]; exact inb_ok3 (six_size _ 6) hlt, evs_nil ?_⟩
    show K [(Value.agg (sixV (ivs g 0 48) 6).toArray).cells.getD (m * 3 + 0) undef, (Value.agg (sixV (ivs g 0 48) 6).toArray).cells.getD (m * 3 + 1) undef, (Value.agg (sixV (ivs g 0 48) 6).toArray).cells.getD (m * 3 + 2) undef, .bool true]
    rw [six_sel _ hlt (by omega : 0 < 3), six_sel _ hlt (by omega : 1 < 3), six_sel _ hlt (by omega : 2 < 3)]
    exact hK
  · rw [enV_false ha] at hK
    exact ⟨fun _ => hK, fun h => (by cases h)⟩

def tr_l6tKind0 : Tr :=
  (.evs [.need [(.bool true)],
    .need [(.bool true)]]
  (.ret [(.int .i64 1), (.int .i64 0), (.int .i64 1), (.int .i64 1), (.int .i64 0), (.int .i64 1), (.int .i64 0), (.int .i64 0), (.int .i64 1), (.int .i64 0), (.int .i64 0), (.int .i64 1)]))
def Fs_l6tKind0 : List Fun1 := []
def F_l6tKind0 : Fun1 := ofTree Fs_l6tKind0 tr_l6tKind0

def tr_l6tKind1 : Tr :=
  (.evs [.need [(.bool true)],
    .need [(.bool true)]]
  (.ret [(.int .i64 1), (.int .i64 0), (.int .i64 1), (.int .i64 (-1)), (.int .i64 0), (.int .i64 1), (.int .i64 0), (.int .i64 0), (.int .i64 1), (.int .i64 0), (.int .i64 0), (.int .i64 1)]))
def Fs_l6tKind1 : List Fun1 := []
def F_l6tKind1 : Fun1 := ofTree Fs_l6tKind1 tr_l6tKind1

def tr_l6tKind2 : Tr :=
  (.evs [.need [(.bool true)],
    .need [(.bool true)]]
  (.ret [(.int .i64 1), (.int .i64 0), (.int .i64 1), (.int .i64 0), (.int .i64 0), (.int .i64 1), (.int .i64 1), (.int .i64 0), (.int .i64 1), (.int .i64 0), (.int .i64 0), (.int .i64 1)]))
def Fs_l6tKind2 : List Fun1 := []
def F_l6tKind2 : Fun1 := ofTree Fs_l6tKind2 tr_l6tKind2

def tr_l6tKind3 : Tr :=
  (.evs [.need [(.bool true)],
    .need [(.bool true)]]
  (.ret [(.int .i64 1), (.int .i64 0), (.int .i64 1), (.int .i64 0), (.int .i64 0), (.int .i64 1), (.int .i64 (-1)), (.int .i64 0), (.int .i64 1), (.int .i64 0), (.int .i64 0), (.int .i64 1)]))
def Fs_l6tKind3 : List Fun1 := []
def F_l6tKind3 : Fun1 := ofTree Fs_l6tKind3 tr_l6tKind3

def tr_l6tKind4 : Tr :=
  (.evs [.need [(.bool true)],
    .need [(.bool true)]]
  (.ret [(.int .i64 1), (.int .i64 0), (.int .i64 1), (.int .i64 0), (.int .i64 0), (.int .i64 1), (.int .i64 0), (.int .i64 0), (.int .i64 1), (.int .i64 1), (.int .i64 0), (.int .i64 1)]))
def Fs_l6tKind4 : List Fun1 := []
def F_l6tKind4 : Fun1 := ofTree Fs_l6tKind4 tr_l6tKind4

def tr_l6tKind5 : Tr :=
  (.evs [.need [(.bool true)],
    .need [(.bool true)]]
  (.ret [(.int .i64 1), (.int .i64 0), (.int .i64 1), (.int .i64 0), (.int .i64 0), (.int .i64 1), (.int .i64 0), (.int .i64 0), (.int .i64 1), (.int .i64 (-1)), (.int .i64 0), (.int .i64 1)]))
def Fs_l6tKind5 : List Fun1 := []
def F_l6tKind5 : Fun1 := ofTree Fs_l6tKind5 tr_l6tKind5

def SP_l6tKind : Spec := kindSpec

def tr_l6tFirst : Tr :=
  (.lp 0 [(.int .i64 0), (.int .i64 0), (.int .i64 0), (.int .i64 0), (.int .i64 0), (.int .i64 0), (.int .i64 0)] [.int .i64, .int .i64, .int .i64, .int .i64, .int .i64, .int .i64, .int .i64]
  (.ite (.cmp .lss (.var 48) (.int .i64 6))
   (.evs [.call 0 [(.var 48)] none 12,
      .call 1 [(.var 0), (.var 1), (.var 2), (.var 3), (.var 4), (.var 5), (.var 6), (.var 7), (.var 8), (.var 9), (.var 10), (.var 11), (.var 12), (.var 13), (.var 14), (.var 15), (.var 16), (.var 17), (.var 18), (.var 19), (.var 20), (.var 21), (.var 22), (.var 23), (.var 24), (.var 25), (.var 26), (.var 27), (.var 28), (.var 29), (.var 30), (.var 31), (.var 32), (.var 33), (.var 34), (.var 35), (.var 36), (.var 37), (.var 38), (.var 39), (.var 40), (.var 41), (.var 42), (.var 43), (.var 44), (.var 45), (.var 46), (.var 47), (.var 55), (.var 56), (.var 57), (.var 58), (.var 59), (.var 60), (.var 61), (.var 62), (.var 63), (.var 64), (.var 65), (.var 66)] none 13]
    (.ite (.not (.var 79))
    (.ret [(.var 49), (.var 50), (.var 51), (.var 52), (.var 53), (.var 54), (.bool false)])
    (.evs [.call 2 [(.var 67), (.var 68), (.var 69), (.var 49), (.var 50), (.var 51)] none 2]
     (.evs [.call 2 [(.var 67), (.var 68), (.var 69), (.var 52), (.var 53), (.var 54)] none 2]
     (.ite (.ite (.cmp .eql (.var 48) (.int .i64 0)) (.bool true) (.cmp .lss (.var 80) (.int .i64 0)))
     (.ite (.ite (.cmp .eql (.var 48) (.int .i64 0)) (.bool true) (.cmp .gtr (.var 82) (.int .i64 0)))
      (.next 0 [(.ar .add .i64 (.var 48) (.int .i64 1)), (.var 67), (.var 68), (.var 69), (.var 67), (.var 68), (.var 69)])
      (.next 0 [(.ar .add .i64 (.var 48) (.int .i64 1)), (.var 67), (.var 68), (.var 69), (.var 52), (.var 53), (.var 54)]))
     (.ite (.ite (.cmp .eql (.var 48) (.int .i64 0)) (.bool true) (.cmp .gtr (.var 82) (.int .i64 0)))
      (.next 0 [(.ar .add .i64 (.var 48) (.int .i64 1)), (.var 49), (.var 50), (.var 51), (.var 67), (.var 68), (.var 69)])
      (.next 0 [(.ar .add .i64 (.var 48) (.int .i64 1)), (.var 49), (.var 50), (.var 51), (.var 52), (.var 53), (.var 54)])))))))
   (.ret [(.var 49), (.var 50), (.var 51), (.var 52), (.var 53), (.var 54), (.bool true)])))
def Ss_l6tFirst : List Spec := [SP_l6tKind, G_sTableApply.spec, G_sFracCompare.spec]
def SP_l6tFirst : Spec := fun ins K => (allB (kOk ins) 0 6 = true → K (vQ (loF (kX ins) 6) ++ vQ (hiF (kX ins) 6) ++ [.bool true])) ∧ (allB (kOk ins) 0 6 = false → ∀ p q : Q, K (vQ p ++ vQ q ++ [.bool false]))
def bodyOf : Tr → Tr
  | .lp _ _ _ b => b
  | t => t
theorem first_eq : (fun (P : Program) (g : Nat → Int) (k : Int) (lo hi : Q) (N K : List Value → Prop) => sat P Ss_l6tFirst (bodyOf tr_l6tFirst) (ivs g 0 48 ++ (.int .i64 k :: (vQ lo ++ vQ hi))) [N] K) = fun P g k lo hi N K =>
    ((Value.bool (decide (k < 6)) = .bool true → ∃ j : Nat, j < 6 ∧ [Value.int .i64 k] = [.int .i64 (j : Int)] ∧ True ∧
      ((Value.bool (!(kOk (ivs g 0 48) j)) = .bool true → K (vQ lo ++ vQ hi ++ [.bool false])) ∧
       (Value.bool (!(kOk (ivs g 0 48) j)) = .bool false → True ∧ True ∧
        (((if toB (Value.bool (decide (k = 0))) = true then Value.bool true else .bool (decide (cmpF (kX (ivs g 0 48) j) lo < 0))) = .bool true →
           (((if toB (Value.bool (decide (k = 0))) = true then Value.bool true else .bool (decide (cmpF (kX (ivs g 0 48) j) hi > 0))) = .bool true → N (.int .i64 (IntKind.i64.wrap (k + 1)) :: (vQ (kX (ivs g 0 48) j) ++ vQ (kX (ivs g 0 48) j)))) ∧
            ((if toB (Value.bool (decide (k = 0))) = true then Value.bool true else .bool (decide (cmpF (kX (ivs g 0 48) j) hi > 0))) = .bool false → N (.int .i64 (IntKind.i64.wrap (k + 1)) :: (vQ (kX (ivs g 0 48) j) ++ vQ hi))))) ∧
         ((if toB (Value.bool (decide (k = 0))) = true then Value.bool true else .bool (decide (cmpF (kX (ivs g 0 48) j) lo < 0))) = .bool false →
           (((if toB (Value.bool (decide (k = 0))) = true then Value.bool true else .bool (decide (cmpF (kX (ivs g 0 48) j) hi > 0))) = .bool true → N (.int .i64 (IntKind.i64.wrap (k + 1)) :: (vQ lo ++ vQ (kX (ivs g 0 48) j)))) ∧
            ((if toB (Value.bool (decide (k = 0))) = true then Value.bool true else .bool (decide (cmpF (kX (ivs g 0 48) j) hi > 0))) = .bool false → N (.int .i64 (IntKind.i64.wrap (k + 1)) :: (vQ lo ++ vQ hi))))))))) ∧
     (Value.bool (decide (k < 6)) = .bool false → K (vQ lo ++ vQ hi ++ [.bool true]))) := by kernel_rfl
theorem first_cond {k : Nat} {p : Prop} [Decidable p] {b : Bool} (h : (if toB (Value.bool (decide ((k : Int) = 0))) = true then Value.bool true else .bool (decide p)) = .bool b) : b = true ↔ k = 0 ∨ p := by
  by_cases h0 : k = 0
  · rw [decide_eq_true (by omega : (k : Int) = 0)] at h
    have : b = true := (Value.bool.inj h).symm
    simp [this, h0]
  · rw [decide_eq_false (by omega : ¬ (k : Int) = 0)] at h
    have : b = decide p := (Value.bool.inj h).symm
    simp [this, h0]
theorem sat_l6tFirst (P : Program) (ins : List Value) (K : List Value → Prop) (ht : TypedL (intTs 48 ++ []) ins) (h : SP_l6tFirst ins K) : sat P Ss_l6tFirst tr_l6tFirst ins [] K := by
  obtain ⟨g, r, rfl, h1, _⟩ := ints_lit 48 0 ht
  obtain rfl := ints0 h1
  rw [List.append_nil] at *
  obtain ⟨hT, hF⟩ := h
  have hF' : ∀ k, k < 6 → kOk (ivs g 0 48) k = false → ∀ p q : Q, K (vQ p ++ vQ q ++ [.bool false]) := fun k hk hb => by
    refine hF ?_
    cases ha : allB (kOk (ivs g 0 48)) 0 6 with
    | false => rfl
    | true => rw [allB_get ha k (Nat.zero_le _) (by omega)] at hb; cases hb
  refine ⟨fun vs => ∃ k : Nat, vs = .int .i64 k :: (vQ (loF (kX (ivs g 0 48)) k) ++ vQ (hiF (kX (ivs g 0 48)) k)) ∧ k ≤ 6 ∧ allB (kOk (ivs g 0 48)) 0 k = true, fun vs => 6 - (toI (vs.getD 0 undef)).toNat, ⟨0, rfl, Nat.zero_le _, rfl⟩, ?_⟩
  rintro vs hty ⟨k, rfl, hk, hall⟩
  clear hty
  refine Eq.mpr (congrFun (congrFun (congrFun (congrFun (congrFun (congrFun (congrFun first_eq P) g) (k : Int)) (loF (kX (ivs g 0 48)) k)) (hiF (kX (ivs g 0 48)) k)) _) K) ?_
  generalize hx : kX (ivs g 0 48) = x at *
  generalize hy : kOk (ivs g 0 48) = y at *
  generalize hlo : loF x k = lo at *
  generalize hhi : hiF x k = hi at *
  refine ⟨fun h => ?_, fun h => ?_⟩
  · have hlt : k < 6 := by
      have := of_decide_eq_true (Value.bool.inj h)
      omega
    refine ⟨k, hlt, rfl, trivial, fun hb => ?_, fun hb => ⟨trivial, trivial, ?_⟩⟩
    · exact hF' k hlt (by simpa using Value.bool.inj hb) lo hi
    have hb : y k = true := by simpa using Value.bool.inj hb
    have fin : ∀ p q : Q, loF x (k + 1) = p → hiF x (k + 1) = q → (∃ k' : Nat, (Value.int .i64 (IntKind.i64.wrap ((k : Int) + 1)) :: (vQ p ++ vQ q)) = .int .i64 k' :: (vQ (loF x k') ++ vQ (hiF x k')) ∧ k' ≤ 6 ∧ allB y 0 k' = true) ∧
        6 - (toI ((Value.int .i64 (IntKind.i64.wrap ((k : Int) + 1)) :: (vQ p ++ vQ q)).getD 0 undef)).toNat < 6 - (toI ((Value.int .i64 (k : Int) :: (vQ lo ++ vQ hi)).getD 0 undef)).toNat := by
      rintro p q rfl rfl
      rw [wrap_next hlt (by omega : 6 ≤ 9223372036854775807)]
      refine ⟨⟨k + 1, rfl, by omega, by rw [allB_snoc, hall, Nat.zero_add]; exact hb⟩, ?_⟩
      simp only [List.getD_cons_zero, toI_int, Int.toNat_natCast]
      omega
    have lo1 : k = 0 ∨ cmpF (x k) lo < 0 → loF x (k + 1) = x k := fun h => by rw [loF, hlo, if_pos h]
    have lo2 : ¬ (k = 0 ∨ cmpF (x k) lo < 0) → loF x (k + 1) = lo := fun h => by rw [loF, hlo, if_neg h]
    have hi1 : k = 0 ∨ cmpF (x k) hi > 0 → hiF x (k + 1) = x k := fun h => by rw [hiF, hhi, if_pos h]
    have hi2 : ¬ (k = 0 ∨ cmpF (x k) hi > 0) → hiF x (k + 1) = hi := fun h => by rw [hiF, hhi, if_neg h]
    refine ⟨fun h2 => ⟨fun h3 => ?_, fun h3 => ?_⟩, fun h2 => ⟨fun h3 => ?_, fun h3 => ?_⟩⟩
    · exact fin _ _ (lo1 ((first_cond h2).1 rfl)) (hi1 ((first_cond h3).1 rfl))
    · exact fin _ _ (lo1 ((first_cond h2).1 rfl)) (hi2 fun h => by have := (first_cond h3).2 h; cases this)
    · exact fin _ _ (lo2 fun h => by have := (first_cond h2).2 h; cases this) (hi1 ((first_cond h3).1 rfl))
    · exact fin _ _ (lo2 fun h => by have := (first_cond h2).2 h; cases this) (hi2 fun h => by have := (first_cond h3).2 h; cases this)
  · have hge : ¬ k < 6 := by
      have := of_decide_eq_false (Value.bool.inj h)
      omega
    obtain rfl : k = 6 := by omega
    subst hlo hhi
    exact hT hall

def tr_sTableKeeps : Tr :=
  (.evs [.call 0 [(.var 0), (.var 1), (.var 2), (.var 3), (.var 4), (.var 5), (.var 6), (.var 7), (.var 8), (.var 9), (.var 10), (.var 11), (.var 12), (.var 13), (.var 14), (.var 15), (.var 16), (.var 17), (.var 18), (.var 19), (.var 20), (.var 21), (.var 22), (.var 23), (.var 24), (.var 25), (.var 26), (.var 27), (.var 28), (.var 29), (.var 30), (.var 31), (.var 32), (.var 33), (.var 34), (.var 35), (.var 36), (.var 37), (.var 38), (.var 39), (.var 40), (.var 41), (.var 42), (.var 43), (.var 44), (.var 45), (.var 46), (.var 47)] none 7]
  (.ite (.not (.var 54))
  (.ret [(.bool false)])
  (.evs [.call 1 [(.var 51), (.var 52), (.var 53), (.int .i64 1), (.int .i64 0), (.int .i64 1)] none 2]
   (.ret [(.ite (.cmp .geq (.var 48) (.int .i64 0)) (.cmp .leq (.var 55) (.int .i64 0)) (.bool false))]))))
def Ss_sTableKeeps : List Spec := [SP_l6tFirst, G_sFracCompare.spec]
def F_sTableKeeps : Fun1 := ⟨fun _ => True, fun ins => [.bool (allB (kOk ins) 0 6 && allB (fun k => inUnit (kX ins k)) 0 6)]⟩
theorem sat_sTableKeeps (P : Program) (ins : List Value) (K : List Value → Prop) (ht : TypedL (intTs 48 ++ []) ins) (_ : F_sTableKeeps.pre ins) (hK : K (F_sTableKeeps.out ins)) : sat P Ss_sTableKeeps tr_sTableKeeps ins [] K := by
  obtain ⟨g, r, rfl, h1, _⟩ := ints_lit 48 0 ht
  obtain rfl := ints0 h1
  rw [List.append_nil] at *
  have hK : K [.bool (allB (kOk (ivs g 0 48)) 0 6 && allB (fun k => inUnit (kX (ivs g 0 48) k)) 0 6)] := hK
  refine evs_step (call_step (sp := SP_l6tFirst) rfl ?_)
  show SP_l6tFirst (ivs g 0 48) _
  refine ⟨fun ha => evs_nil ?_, fun ha p q => evs_nil ?_⟩
  · rw [ha, Bool.true_and, unit_all (by omega) fun j hj => (kX_real hj (allB_get ha j (Nat.zero_le _) (by omega))).1] at hK
    refine ⟨fun h => (by cases h), fun _ => ?_⟩
    refine evs_step (call_step (sp := G_sFracCompare.spec) rfl ⟨trivial, evs_nil ?_⟩)
    show K [if toB (Value.bool (decide ((loF (kX (ivs g 0 48)) 6).1 ≥ 0))) = true then Value.bool (decide (cmpF (hiF (kX (ivs g 0 48)) 6) oneQ ≤ 0)) else .bool false]
    generalize decide (cmpF (hiF (kX (ivs g 0 48)) 6) oneQ ≤ 0) = q at *
    have : decide ((loF (kX (ivs g 0 48)) 6).1 ≥ 0) = decide (0 ≤ (loF (kX (ivs g 0 48)) 6).1) := rfl
    rw [this]
    generalize decide (0 ≤ (loF (kX (ivs g 0 48)) 6).1) = p at *
    cases p
    · exact hK
    · exact hK
  · rw [ha, Bool.false_and] at hK
    exact ⟨fun _ => hK, fun h => (by cases h)⟩

def tr_DrawTableKeeps : Tr :=
  (.evs [.call 0 [(.var 0)] none 2,
    .call 1 [(.var 1), (.var 2)] none 50]
  (.ret [(.var 3), (.var 4), (.var 5), (.var 6), (.var 7), (.var 8), (.var 9), (.var 10), (.var 11), (.var 12), (.var 13), (.var 14), (.var 15), (.var 16), (.var 17), (.var 18), (.var 19), (.var 20), (.var 21), (.var 22), (.var 23), (.var 24), (.var 25), (.var 26), (.var 27), (.var 28), (.var 29), (.var 30), (.var 31), (.var 32), (.var 33), (.var 34), (.var 35), (.var 36), (.var 37), (.var 38), (.var 39), (.var 40), (.var 41), (.var 42), (.var 43), (.var 44), (.var 45), (.var 46), (.var 47), (.var 48), (.var 49), (.var 50)]))
def Fs_DrawTableKeeps (cb : CodeB) : List Fun1 := [(F_openC cb), (F_l92Table cb)]
def F_DrawTableKeeps (cb : CodeB) : Fun1 := ofTree (Fs_DrawTableKeeps cb) tr_DrawTableKeeps
def A_DrawTableKeeps : AF := absT [A_openC, A_l92Table] tr_DrawTableKeeps
theorem aok_DrawTableKeeps {cb : CodeB} (hk : CodeOk cb) : AOK cb (F_DrawTableKeeps cb) A_DrawTableKeeps := tree_aok (AOKs.cons (aok_openC hk) (AOKs.cons (aok_l92Table hk) AOKs.nil)) tr_DrawTableKeeps

def tr_FnKeeps : Tr :=
  (.ite (.cmp .gtr (.len (.var 0)) (.int .i64 1048576))
  (.ret [(.bool true)])
  (.evs [.call 0 [(.var 0)] none 48]
   (.evs [.call 1 [(.var 1), (.var 2), (.var 3), (.var 4), (.var 5), (.var 6), (.var 7), (.var 8), (.var 9), (.var 10), (.var 11), (.var 12), (.var 13), (.var 14), (.var 15), (.var 16), (.var 17), (.var 18), (.var 19), (.var 20), (.var 21), (.var 22), (.var 23), (.var 24), (.var 25), (.var 26), (.var 27), (.var 28), (.var 29), (.var 30), (.var 31), (.var 32), (.var 33), (.var 34), (.var 35), (.var 36), (.var 37), (.var 38), (.var 39), (.var 40), (.var 41), (.var 42), (.var 43), (.var 44), (.var 45), (.var 46), (.var 47), (.var 48)] none 1]
   (.evs [.call 2 [(.var 1), (.var 2), (.var 3), (.var 4), (.var 5), (.var 6), (.var 7), (.var 8), (.var 9), (.var 10), (.var 11), (.var 12), (.var 13), (.var 14), (.var 15), (.var 16), (.var 17), (.var 18), (.var 19), (.var 20), (.var 21), (.var 22), (.var 23), (.var 24), (.var 25), (.var 26), (.var 27), (.var 28), (.var 29), (.var 30), (.var 31), (.var 32), (.var 33), (.var 34), (.var 35), (.var 36), (.var 37), (.var 38), (.var 39), (.var 40), (.var 41), (.var 42), (.var 43), (.var 44), (.var 45), (.var 46), (.var 47), (.var 48)] none 1]
   (.ite (.ite (.not (.eqb (.var 49) (.var 50))) (.bool true) (.not (.var 49)))
   (.ret [(.eqb (.var 49) (.var 50))])
   (.evs [.call 3 [(.var 1), (.var 2), (.var 3), (.var 4), (.var 5), (.var 6), (.var 7), (.var 8), (.var 9), (.var 10), (.var 11), (.var 12), (.var 13), (.var 14), (.var 15), (.var 16), (.var 17), (.var 18), (.var 19), (.var 20), (.var 21), (.var 22), (.var 23), (.var 24), (.var 25), (.var 26), (.var 27), (.var 28), (.var 29), (.var 30), (.var 31), (.var 32), (.var 33), (.var 34), (.var 35), (.var 36), (.var 37), (.var 38), (.var 39), (.var 40), (.var 41), (.var 42), (.var 43), (.var 44), (.var 45), (.var 46), (.var 47), (.var 48)] none 4]
    (.evs [.call 4 [(.var 1), (.var 2), (.var 3), (.var 4), (.var 5), (.var 6), (.var 7), (.var 8), (.var 9), (.var 10), (.var 11), (.var 12), (.var 13), (.var 14), (.var 15), (.var 16), (.var 17), (.var 18), (.var 19), (.var 20), (.var 21), (.var 22), (.var 23), (.var 24), (.var 25), (.var 26), (.var 27), (.var 28), (.var 29), (.var 30), (.var 31), (.var 32), (.var 33), (.var 34), (.var 35), (.var 36), (.var 37), (.var 38), (.var 39), (.var 40), (.var 41), (.var 42), (.var 43), (.var 44), (.var 45), (.var 46), (.var 47), (.var 48), (.var 1), (.var 2), (.var 3), (.var 4), (.var 5), (.var 6), (.var 7), (.var 8), (.var 9), (.var 10), (.var 11), (.var 12), (.var 13), (.var 14), (.var 15), (.var 16), (.var 17), (.var 18), (.var 19), (.var 20), (.var 21), (.var 22), (.var 23), (.var 24), (.var 25), (.var 26), (.var 27), (.var 28), (.var 29), (.var 30), (.var 31), (.var 32), (.var 33), (.var 34), (.var 35), (.var 36), (.var 37), (.var 38), (.var 39), (.var 40), (.var 41), (.var 42), (.var 43), (.var 44), (.var 45), (.var 46), (.var 47), (.var 48), (.int .i64 1), (.int .i64 2)] none 49]
    (.evs [.call 3 [(.var 55), (.var 56), (.var 57), (.var 58), (.var 59), (.var 60), (.var 61), (.var 62), (.var 63), (.var 64), (.var 65), (.var 66), (.var 67), (.var 68), (.var 69), (.var 70), (.var 71), (.var 72), (.var 73), (.var 74), (.var 75), (.var 76), (.var 77), (.var 78), (.var 79), (.var 80), (.var 81), (.var 82), (.var 83), (.var 84), (.var 85), (.var 86), (.var 87), (.var 88), (.var 89), (.var 90), (.var 91), (.var 92), (.var 93), (.var 94), (.var 95), (.var 96), (.var 97), (.var 98), (.var 99), (.var 100), (.var 101), (.var 102)] none 4]
    (.ret [(.ite (.ite (.ite (.var 54) (.cmp .geq (.var 51) (.int .i64 0)) (.bool false)) (.cmp .leq (.var 51) (.var 53)) (.bool false)) (.ite (.ite (.not (.var 103)) (.bool true) (.not (.var 107))) (.bool true) (.ite (.cmp .eql (.var 51) (.var 104)) (.ite (.cmp .eql (.var 52) (.var 105)) (.cmp .eql (.var 53) (.var 106)) (.bool false)) (.bool false))) (.bool false))])))))))))
def Fs_FnKeeps : List Fun1 := [F_iTableKeeps, F_sTableKeeps, F_iTableEnergy, G_iTableMix]
def dt_FnKeeps : List Ty := [.int .i64, .int .i64, .int .i64, .int .i64, .int .i64, .int .i64, .int .i64, .int .i64, .int .i64, .int .i64, .int .i64, .int .i64, .int .i64, .int .i64, .int .i64, .int .i64, .int .i64, .int .i64, .int .i64, .int .i64, .int .i64, .int .i64, .int .i64, .int .i64, .int .i64, .int .i64, .int .i64, .int .i64, .int .i64, .int .i64, .int .i64, .int .i64, .int .i64, .int .i64, .int .i64, .int .i64, .int .i64, .int .i64, .int .i64, .int .i64, .int .i64, .int .i64, .int .i64, .int .i64, .int .i64, .int .i64, .int .i64, .int .i64]
def Ss_FnKeeps (cb : CodeB) : List Spec := drawSpec dt_FnKeeps (drawPre cb) :: specsOf Fs_FnKeeps
def tl_FnKeeps : Tr := match tr_FnKeeps with
  | .ite _ _ (.evs _ t) => t
  | t => t
theorem sh_FnKeeps : tr_FnKeeps = .ite (.cmp .gtr (.len (.var 0)) (.int .i64 1048576)) (.ret [.bool true]) (.evs [.call 0 [.var 0] none 48] tl_FnKeeps) := by kernel_rfl
-- part eq3
def eq3 (a b : Q) : Value := if toB (.bool (a.1 == b.1)) = true then (if toB (.bool (a.2.1 == b.2.1)) = true then .bool (a.2.2 == b.2.2) else .bool false) else .bool false
theorem eq3_self (a : Q) : eq3 a a = .bool true := by simp [eq3]
-- part mix
def mxH (ins : List Value) : Nat → Int := nttH 16 (mxT ins) (mxD ins)
def mxO (ins : List Value) : Bool := nttT 16 (mxT ins) (mxD ins)
/-- Parts of k and n - k over n. -/
theorem parts_val {k n : Int} (hn : 1 ≤ n ∧ n ≤ 100) (hk : 0 ≤ k ∧ k ≤ n) {p q : Q} (hp : validQ p = true) (hq : validQ q = true) (ep : p = (makeI k 0 n).getD zq) (eq : q = (makeI (IntKind.i64.wrap (n - k)) 0 n).getD zq) :
    imR p = 0 ∧ imR q = 0 ∧ reR p + reR q = 1 ∧ reR p = (k : Rat) / (n : Rat) := by
  rw [wrap_in (z := n - k) (by omega)] at eq
  subst ep eq
  obtain ⟨p1, p2, _⟩ := make_val (getD_valid hp)
  obtain ⟨q1, q2, _⟩ := make_val (getD_valid hq)
  have hn0 : (n : Rat) ≠ 0 := by have : n ≠ 0 := by omega
                                 exact_mod_cast this
  refine ⟨by rw [p2]; simp [Rat.div_def], by rw [q2]; simp [Rat.div_def], ?_, p1⟩
  rw [p1, q1, Rat.intCast_sub]
  grind
theorem mxN_iff {ins : List Value} (h : mxT ins = true) : (1 ≤ i0 ins 97 ∧ i0 ins 97 ≤ 100) ∧ (0 ≤ i0 ins 96 ∧ i0 ins 96 ≤ i0 ins 97) := by
  unfold mxT mxN at h
  simp only [Bool.and_eq_true, inRg_iff] at h
  omega
theorem mx_cell {ins : List Value} (h : mxO ins = true) {k : Nat} (hk : k < 16) : ∃ v, mixQ (q3 ins (3 * k)) (mxP ins) (q3 ins (48 + 3 * k)) (mxR ins) = some v ∧ ∀ j, j < 3 → mxH ins (3 * k + j) = cmpQ v j := by
  obtain ⟨v, hv⟩ := (nttT_ok h).2 k hk
  refine ⟨v, hv, fun j hj => ?_⟩
  unfold mxH
  rw [nttH_val h, show (3 * k + j) / 3 = k by omega, show (3 * k + j) % 3 = j by omega, hv]
  rfl
theorem mx_pq {ins : List Value} (h : mxO ins = true) : validQ (mxP ins) = true ∧ validQ (mxR ins) = true := by
  obtain ⟨v, hv, _⟩ := mx_cell h (k := 0) (by omega)
  obtain ⟨x, y, hx, hy, _⟩ := mix_args hv
  exact ⟨(times_args hx).2, (times_args hy).2⟩
theorem mx_upto {f h : Nat → Int} (e : ∀ k, k < 16 → ∀ j, j < 3 → f (3 * k + j) = h (3 * k + j)) : ∀ i, 0 ≤ i → i < 0 + 48 → f i = h i := by
  intro i _ hi
  have := e (i / 3) (by omega) (i % 3) (by omega)
  rwa [show 3 * (i / 3) + i % 3 = i by omega] at this
theorem cmp_tri' (g : Nat → Int) (k j : Nat) (hj : j < 3) : cmpQ (tri g (3 * k)) j = g (3 * k + j) := by
  have := cmp_tri g (3 * k + j)
  rwa [show (3 * k + j) / 3 = k by omega, show (3 * k + j) % 3 = j by omega] at this
def kpB (l : List Value) : Bool := enB l && allB (fun k => inUnit (kX l k)) 0 6
def hfL (g : Nat → Int) : List Value := ivs g 0 48 ++ (ivs g 0 48 ++ [.int .i64 1, .int .i64 2])
def hfM (g : Nat → Int) : List Value := ivs (mxH (hfL g)) 0 48
theorem ok_FnKeeps : (fun (v : Value) (g : Nat → Int) => okT (nope :: Fs_FnKeeps) tl_FnKeeps (v :: ivs g 0 48)) = fun v g => (True ∧ True) ∧ (True ∧ True) ∧
    (if toB (if toB (.bool (!(kpB (ivs g 0 48) == kpB (ivs g 0 48)))) = true then .bool true else .bool (!kpB (ivs g 0 48))) = true then True else (True ∧ True) ∧ (True ∧ True) ∧ (True ∧ True) ∧ True) := by kernel_rfl
theorem out_FnKeeps : (fun (v : Value) (g : Nat → Int) => evalT (nope :: Fs_FnKeeps) tl_FnKeeps (v :: ivs g 0 48)) = fun v g =>
    if toB (if toB (.bool (!(kpB (ivs g 0 48) == kpB (ivs g 0 48)))) = true then .bool true else .bool (!kpB (ivs g 0 48))) = true
    then [.bool (kpB (ivs g 0 48) == kpB (ivs g 0 48))]
    else [if toB (if toB (if toB (.bool (enB (ivs g 0 48))) = true then .bool (decide ((enQ (ivs g 0 48)).1 ≥ 0)) else .bool false) = true then .bool (decide ((enQ (ivs g 0 48)).1 ≤ (enQ (ivs g 0 48)).2.2)) else .bool false) = true
      then (if toB (if toB (.bool (!mxO (hfL g))) = true then .bool true else .bool (!enB (hfM g))) = true then .bool true else eq3 (enQ (ivs g 0 48)) (enQ (hfM g))) else .bool false] := by kernel_rfl
theorem ivs_same {f g : Nat → Int} : ∀ (n k : Nat), (∀ i, k ≤ i → i < k + n → f i = g i) → ivs f k n = ivs g k n
  | 0, _, _ => rfl
  | n + 1, k, h => by
    rw [ivs, ivs, h k (Nat.le_refl _) (by omega), ivs_same n (k + 1) fun i h1 h2 => h i (by omega) (by omega)]
theorem hf_a (g : Nat → Int) : ∀ k, k < 16 → q3 (hfL g) (3 * k) = tri g (3 * k) := get16 rfl rfl rfl rfl rfl rfl rfl rfl rfl rfl rfl rfl rfl rfl rfl rfl
theorem hf_b (g : Nat → Int) : ∀ k, k < 16 → q3 (hfL g) (48 + 3 * k) = tri g (3 * k) := get16 rfl rfl rfl rfl rfl rfl rfl rfl rfl rfl rfl rfl rfl rfl rfl rfl
/-- A table mixed with itself is that table. -/
theorem hf_same {g : Nat → Int} (h : mxO (hfL g) = true) : hfM g = ivs g 0 48 := by
  refine ivs_same 48 0 fun i h0 hi => ?_
  refine mx_upto (f := mxH (hfL g)) (h := g) (fun k hk j hj => ?_) i h0 hi
  obtain ⟨v, hv, hc⟩ := mx_cell h hk
  obtain ⟨vp, vq⟩ := mx_pq h
  obtain ⟨p0, q0, pq, _⟩ := parts_val (k := 1) (n := 2) (by omega) (by omega) vp vq rfl rfl
  obtain ⟨_, _, hx, _, _⟩ := mix_args hv
  have va := (times_args hx).1
  rw [hf_a g k hk, hf_b g k hk] at hv
  rw [hf_a g k hk] at va
  obtain ⟨v1, v2, v3⟩ := mix_val hv
  have : v = tri g (3 * k) := val_inj v3 va (by rw [v1, p0, q0]; grind) (by rw [v2, p0, q0]; grind)
  rw [hc j hj, this, cmp_tri' g k j hj]
theorem keeps_unit {g : Nat → Int} (h : kpB (ivs g 0 48) = true) : enB (ivs g 0 48) = true ∧ (enQ (ivs g 0 48)).1 ≥ 0 ∧ (enQ (ivs g 0 48)).1 ≤ (enQ (ivs g 0 48)).2.2 := by
  unfold kpB at h
  rw [Bool.and_eq_true] at h
  obtain ⟨hB, hU⟩ := h
  have h' : allB (kOk (ivs g 0 48)) 0 6 = true := hB
  have hr : ∀ j, j < 6 → realQ (kX (ivs g 0 48) j) = true := fun j hj => (kX_real hj (allB_get h' j (Nat.zero_le _) (by omega))).1
  have hlt := grt_lt (kX (ivs g 0 48)) 6 (by omega)
  have e : enQ (ivs g 0 48) = kX (ivs g 0 48) (grt (kX (ivs g 0 48)) 6) := by
    unfold enQ
    rw [if_pos h']
  rw [e]
  generalize grt (kX (ivs g 0 48)) 6 = m at *
  have hv := hr m hlt
  obtain ⟨u1, u2⟩ := (inUnit_iff hv).1 (allB_get hU m (Nat.zero_le _) (by omega))
  generalize kX (ivs g 0 48) m = v at *
  refine ⟨hB, (re_sign hv).2 u1, ?_⟩
  have hd := valid_den (realQ_valid hv)
  have p2 : (0 : Rat) < (v.2.2 : Rat) := by
    have : (0 : Int) < v.2.2 := by omega
    exact_mod_cast this
  have : ¬ v.2.2 < v.1 := fun hh => by
    have h1 : (1 : Rat) < reR v := by
      unfold reR
      rw [Rat.lt_div_iff p2, Rat.one_mul]
      exact_mod_cast hh
    grind
  omega
theorem sat_FnKeeps (P : Program) (cb : CodeB) (ins : List Value) (K : List Value → Prop) (_ : TypedL [.sl] ins) (hp : (lawF cb).pre ins) (hK : K [.bool true]) : sat P (Ss_FnKeeps cb) tr_FnKeeps ins [] K := by
  rw [sh_FnKeeps]
  refine sat_draws' (fun v outs ht => ?_) hp hK
  obtain ⟨g, r, rfl, h1, _⟩ := ints_lit 48 0 (ts := []) ht
  obtain rfl := ints0 h1
  rw [List.append_nil]
  have e1 := congrFun (congrFun ok_FnKeeps v) g
  have e2 := congrFun (congrFun out_FnKeeps v) g
  rw [beq_self_eq_true] at e1 e2
  cases hB : kpB (ivs g 0 48) with
  | false =>
    rw [hB] at e1 e2
    refine ⟨by rw [e1]; simp, by rw [e2]; simp⟩
  | true =>
    obtain ⟨c1, c2, c3⟩ := keeps_unit hB
    rw [hB, c1, decide_eq_true c2, decide_eq_true c3] at e2
    rw [hB] at e1
    refine ⟨by rw [e1]; simp, ?_⟩
    rw [e2]
    cases hm : mxO (hfL g) with
    | false => simp
    | true => rw [hf_same hm, eq3_self, c1]; simp

end Go.Sx

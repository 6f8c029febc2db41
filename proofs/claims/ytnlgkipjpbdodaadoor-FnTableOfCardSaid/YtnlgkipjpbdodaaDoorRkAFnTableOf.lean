/- What the functions reckon, by their trees. -/
import Derived.Test.YtnlgkipjpbdodaaDoorEe
import Derived.KernelRfl
namespace Go.Sx
open Go
set_option maxRecDepth 100000
set_option linter.unusedSimpArgs false
set_option linter.unusedVariables false

def tr_size : Tr :=
  (.ret [(.mx false .i64 (.var 0) (.ar .sub .i64 (.int .i64 0) (.var 0)))])
def Fs_size : List Fun1 := []
def F_size : Fun1 := ofTree Fs_size tr_size

def tr_within : Tr :=
  (.ret [(.ite (.cmp .geq (.var 0) (.var 1)) (.cmp .leq (.var 0) (.var 2)) (.bool false))])
def Fs_within : List Fun1 := []
def F_within : Fun1 := ofTree Fs_within tr_within
def G_within : Fun1 := ⟨fun _ => True, fun ins => [.bool (inRg (i0 ins 0) (i0 ins 1) (i0 ins 2))]⟩
theorem as_within (ins : List Value) (ht : TypedL [.int .i64, .int .i64, .int .i64] ins) (_ : G_within.pre ins) : F_within.pre ins ∧ F_within.out ins = G_within.out ins := by
  obtain ⟨a, b, c, rfl, _, _, _⟩ := ints3 ht
  refine ⟨trivial, ?_⟩
  show [if (decide (a ≥ b)) = true then Value.bool (decide (a ≤ c)) else Value.bool false] = [Value.bool (decide (b ≤ a) && decide (a ≤ c))]
  by_cases h : b ≤ a <;> simp [h]

def tr_l6In : Tr :=
  (.ret [(.ite (.cmp .geq (.var 0) (.var 1)) (.cmp .leq (.var 0) (.var 2)) (.bool false))])
def Fs_l6In : List Fun1 := []
def F_l6In : Fun1 := ofTree Fs_l6In tr_l6In
def G_l6In : Fun1 := ⟨fun _ => True, fun ins => [.bool (inRg (i0 ins 0) (i0 ins 1) (i0 ins 2))]⟩
theorem as_l6In (ins : List Value) (ht : TypedL [.int .i64, .int .i64, .int .i64] ins) (_ : G_l6In.pre ins) : F_l6In.pre ins ∧ F_l6In.out ins = G_l6In.out ins := by
  obtain ⟨a, b, c, rfl, _, _, _⟩ := ints3 ht
  refine ⟨trivial, ?_⟩
  show [if (decide (a ≥ b)) = true then Value.bool (decide (a ≤ c)) else Value.bool false] = [Value.bool (decide (b ≤ a) && decide (a ≤ c))]
  by_cases h : b ≤ a <;> simp [h]
def A_l6In : AF := aAny 1
theorem aok_l6In {cb : CodeB} : AOK cb G_l6In A_l6In := aAny_ok (fun _ => trivial) (fun ins => by rfl)

def tr_l2In : Tr :=
  (.evs [.call 0 [(.var 0), (.int .i64 (-2000000000)), (.int .i64 2000000000)] none 1]
  (.ret [(.var 1)]))
def Fs_l2In : List Fun1 := [G_l6In]
def F_l2In : Fun1 := ofTree Fs_l2In tr_l2In
def G_l2In : Fun1 := ⟨fun _ => True, fun ins => [.bool (inR (i0 ins 0))]⟩
theorem as_l2In (ins : List Value) (ht : TypedL [.int .i64] ins) (_ : G_l2In.pre ins) : F_l2In.pre ins ∧ F_l2In.out ins = G_l2In.out ins := by
  obtain ⟨a, rfl, _⟩ := ints1 ht
  exact ⟨⟨⟨trivial, trivial⟩, trivial⟩, rfl⟩

def tr_divisor : Tr :=
  (.lp 0 [(.var 0), (.var 1)] [.int .i64, .int .i64]
  (.ite (.cmp .neq (.var 3) (.int .i64 0))
   (.evs [.need [(.cmp .neq (.var 3) (.int .i64 0))]]
    (.next 0 [(.var 3), (.ar .rem .i64 (.var 2) (.var 3))]))
   (.ret [(.var 2)])))
def Fs_divisor : List Fun1 := []
def F_divisor : Fun1 := ⟨fun _ => True, fun ins => [.int .i64 (euc (i0 ins 0) (i0 ins 1))]⟩
theorem sat_divisor (P : Program) (ins : List Value) (K : List Value → Prop) (ht : TypedL [.int .i64, .int .i64] ins) (_ : F_divisor.pre ins) (hK : K (F_divisor.out ins)) : sat P (specsOf Fs_divisor) tr_divisor ins [] K := by
  obtain ⟨a, b, rfl, wa, wb⟩ := ints2 ht
  refine ⟨fun vs => ∃ x y, vs = [.int .i64 x, .int .i64 y] ∧ euc x y = euc a b, fun vs => (toI (vs.getD 1 undef)).natAbs, ⟨a, b, rfl, rfl⟩, ?_⟩
  rintro vs hty ⟨x, y, rfl, he⟩
  refine ⟨fun hc => ?_, fun hc => ?_⟩
  · have hy : y ≠ 0 := by simpa [ev, cmpI] using hc
    refine ⟨fun e he' => by rw [List.mem_singleton.1 he']; exact hc, ⟨_, _, rfl, ?_⟩, ?_⟩
    · rw [← he, euc_step hy]; rfl
    · show (x.tmod y).natAbs < y.natAbs
      rw [Int.natAbs_tmod]
      exact Nat.mod_lt _ (by omega)
  · have hy : y = 0 := by simpa [ev, cmpI] using hc
    subst hy
    rw [euc_zero] at he
    show K [.int .i64 x]
    rw [he]
    exact hK

def tr_l2Gcd : Tr :=
  (.lp 0 [(.var 0), (.var 1)] [.int .i64, .int .i64]
  (.ite (.cmp .neq (.var 3) (.int .i64 0))
   (.evs [.need [(.cmp .neq (.var 3) (.int .i64 0))]]
    (.next 0 [(.var 3), (.ar .rem .i64 (.var 2) (.var 3))]))
   (.ret [(.mx false .i64 (.var 2) (.ar .sub .i64 (.int .i64 0) (.var 2)))])))
def Fs_l2Gcd : List Fun1 := []
def F_l2Gcd : Fun1 := ⟨fun _ => True, fun ins => [.int .i64 (mxI false (euc (i0 ins 0) (i0 ins 1)) (IntKind.i64.wrap (0 - euc (i0 ins 0) (i0 ins 1))))]⟩
theorem sat_l2Gcd (P : Program) (ins : List Value) (K : List Value → Prop) (ht : TypedL [.int .i64, .int .i64] ins) (_ : F_l2Gcd.pre ins) (hK : K (F_l2Gcd.out ins)) : sat P (specsOf Fs_l2Gcd) tr_l2Gcd ins [] K := by
  obtain ⟨a, b, rfl, wa, wb⟩ := ints2 ht
  refine ⟨fun vs => ∃ x y, vs = [.int .i64 x, .int .i64 y] ∧ euc x y = euc a b, fun vs => (toI (vs.getD 1 undef)).natAbs, ⟨a, b, rfl, rfl⟩, ?_⟩
  rintro vs hty ⟨x, y, rfl, he⟩
  refine ⟨fun hc => ?_, fun hc => ?_⟩
  · have hy : y ≠ 0 := by simpa [ev, cmpI] using hc
    refine ⟨fun e he' => by rw [List.mem_singleton.1 he']; exact hc, ⟨_, _, rfl, ?_⟩, ?_⟩
    · rw [← he, euc_step hy]; rfl
    · show (x.tmod y).natAbs < y.natAbs
      rw [Int.natAbs_tmod]
      exact Nat.mod_lt _ (by omega)
  · have hy : y = 0 := by simpa [ev, cmpI] using hc
    subst hy
    rw [euc_zero] at he
    show K [.int .i64 (mxI false x (IntKind.i64.wrap (0 - x)))]
    rw [he]
    exact hK

def tr_lowest : Tr :=
  (.evs [.call 0 [(.var 0)] none 1,
    .call 0 [(.var 1)] none 1,
    .call 1 [(.var 3), (.var 4)] none 1,
    .call 1 [(.var 5), (.var 2)] none 1]
  (.evs [.need [(.cmp .neq (.var 6) (.int .i64 0)), (.cmp .neq (.var 6) (.int .i64 0)), (.cmp .neq (.var 6) (.int .i64 0))]]
  (.evs [.call 2 [(.ar .quo .i64 (.var 0) (.var 6)), (.int .i64 (-2000000000)), (.int .i64 2000000000)] none 1,
    .call 2 [(.ar .quo .i64 (.var 1) (.var 6)), (.int .i64 (-2000000000)), (.int .i64 2000000000)] (some (.not (.not (.var 7)))) 1]
  (.ite (.ite (.ite (.not (.var 7)) (.bool true) (.not (.var 8))) (.bool true) (.cmp .gtr (.ar .quo .i64 (.var 2) (.var 6)) (.int .i64 2000000000)))
  (.ret [(.int .i64 0), (.int .i64 0), (.int .i64 0), (.bool false)])
  (.ret [(.ar .quo .i64 (.var 0) (.var 6)), (.ar .quo .i64 (.var 1) (.var 6)), (.ar .quo .i64 (.var 2) (.var 6)), (.bool true)])))))
def Fs_lowest : List Fun1 := [F_size, F_divisor, G_within]
def F_lowest : Fun1 := ofTree Fs_lowest tr_lowest
def G_lowest : Fun1 := ⟨fun ins => lowOk (i0 ins 0) (i0 ins 1) (i0 ins 2), fun ins => fr4 (lowI (i0 ins 0) (i0 ins 1) (i0 ins 2))⟩
theorem as_lowest (ins : List Value) (ht : TypedL [.int .i64, .int .i64, .int .i64] ins) (hp : G_lowest.pre ins) : F_lowest.pre ins ∧ F_lowest.out ins = G_lowest.out ins := by
  obtain ⟨a, b, c, rfl, wa, wb, wc⟩ := ints3 ht
  obtain ⟨p1, p2, p3, p4, p5, p6⟩ : lowOk a b c := hp
  have e1 := size_abs ⟨p1, p2⟩
  have e2 := size_abs ⟨p3, p4⟩
  have e3 : euc (a.natAbs : Nat) (b.natAbs : Nat) = (Nat.gcd a.natAbs b.natAbs : Nat) := euc_nat _ _
  have e4 : euc (Nat.gcd a.natAbs b.natAbs : Nat) c = (gcd3 a b c : Nat) := by rw [euc_eq (by omega) (by omega)]; rfl
  have hg : gcd3 a b c ≠ 0 := by have := gcd3_pos (a := a) (b := b) p5; omega
  have hgi : ((gcd3 a b c : Nat) : Int) ≠ 0 := by omega
  have q1 := quo_ok (g := gcd3 a b c) ⟨p1, p2⟩
  have q2 := quo_ok (g := gcd3 a b c) ⟨p3, p4⟩
  have q3 := quo_ok (a := c) (g := gcd3 a b c) ⟨by omega, p6⟩
  simp only [F_lowest, G_lowest, tr_lowest, Fs_lowest, F_size, tr_size, Fs_size, F_divisor, G_within, lowI, arI, ofTree, okT, okE, evalT, evalE, evsIn, ev, callF, preF, hasF, needs, i0, b0, toI_int, toB_bool, List.getD_cons_zero, List.getD_cons_succ, List.cons_append, List.nil_append, List.replicate, if_true, if_false, Bool.false_eq_true, and_true, true_and, implies_true, forall_const, false_implies, cmpI, Bool.not_true, Bool.not_false, Bool.true_and, Bool.false_and, Bool.and_true, Bool.and_false, reduceIte, List.append_nil, reduceCtorEq, e1, e2, e3, e4, q1, q2, q3]
  have r1 : ∀ z, inRg z (-2000000000) 2000000000 = inR z := fun _ => rfl
  simp only [r1]
  cases h1 : inR (a.tdiv (gcd3 a b c)) <;> cases h2 : inR (b.tdiv (gcd3 a b c)) <;> by_cases h3 : c.tdiv (gcd3 a b c) ≤ 2000000000 <;> simp [h1, h2, h3, hgi, hg, fr4, zq] <;> omega

def tr_sFracValid : Tr :=
  (.evs [.call 0 [(.var 0)] none 1,
    .call 0 [(.var 1)] (some (.var 3)) 1,
    .call 1 [(.var 2), (.int .i64 1), (.int .i64 2000000000)] (some (.ite (.var 3) (.var 4) (.bool false))) 1,
    .call 2 [(.var 2), (.var 0)] (some (.ite (.ite (.var 3) (.var 4) (.bool false)) (.var 5) (.bool false))) 1,
    .call 2 [(.var 6), (.var 1)] (some (.ite (.ite (.var 3) (.var 4) (.bool false)) (.var 5) (.bool false))) 1]
  (.ret [(.ite (.ite (.ite (.var 3) (.var 4) (.bool false)) (.var 5) (.bool false)) (.cmp .eql (.var 7) (.int .i64 1)) (.bool false))]))
def Fs_sFracValid : List Fun1 := [G_l2In, G_l6In, F_l2Gcd]
def F_sFracValid : Fun1 := ofTree Fs_sFracValid tr_sFracValid
def G_sFracValid : Fun1 := ⟨fun _ => True, fun ins => [.bool (validI (i0 ins 0) (i0 ins 1) (i0 ins 2))]⟩
theorem as_sFracValid (ins : List Value) (ht : TypedL [.int .i64, .int .i64, .int .i64] ins) (_ : G_sFracValid.pre ins) : F_sFracValid.pre ins ∧ F_sFracValid.out ins = G_sFracValid.out ins := by
  obtain ⟨a, b, c, rfl, wa, wb, wc⟩ := ints3 ht
  have key : inR a = true → inR b = true → inRg c 1 2000000000 = true → mxI false (euc c a) (IntKind.i64.wrap (0 - euc c a)) = (Nat.gcd c.natAbs a.natAbs : Nat) ∧
      mxI false (euc (Nat.gcd c.natAbs a.natAbs : Nat) b) (IntKind.i64.wrap (0 - euc (Nat.gcd c.natAbs a.natAbs : Nat) b)) = (gcd3 a b c : Nat) := by
    intro ha hb hc
    simp only [inR, inRg, Bool.and_eq_true, decide_eq_true_eq] at ha hb hc
    have h0 : Nat.gcd c.natAbs a.natAbs ≤ c.natAbs := Nat.gcd_le_left _ (by omega)
    have hp : 0 < Nat.gcd c.natAbs a.natAbs := Nat.gcd_pos_of_pos_left _ (by omega)
    refine ⟨gcd_small (by omega), ?_⟩
    have h2 : Nat.gcd ((Nat.gcd c.natAbs a.natAbs : Nat) : Int).natAbs b.natAbs ≤ Nat.gcd c.natAbs a.natAbs := Nat.gcd_le_left _ hp
    rw [gcd_small (by omega), Int.natAbs_natCast, gcd3_alt]
  simp only [F_sFracValid, G_sFracValid, tr_sFracValid, Fs_sFracValid, G_l2In, G_l6In, F_l2Gcd, validI, ofTree, okT, okE, evalT, evalE, evsIn, ev, callF, preF, hasF, needs, i0, b0, toI_int, toB_bool, List.getD_cons_zero, List.getD_cons_succ, List.cons_append, List.nil_append, List.replicate, if_true, if_false, Bool.false_eq_true, and_true, true_and, implies_true, forall_const, false_implies, cmpI, Bool.not_true, Bool.not_false, Bool.true_and, Bool.false_and, Bool.and_true, Bool.and_false, reduceIte, List.append_nil, reduceCtorEq]
  cases ha : inR a
  · simp [ha]
  · cases hb : inR b
    · simp [ha, hb]
    · cases hc : inRg c 1 2000000000
      · simp [ha, hb, hc]
      · obtain ⟨k1, k2⟩ := key ha hb hc
        simp only [ha, hb, hc, k1, k2, ofTree, okT, okE, evalT, evalE, evsIn, ev, callF, preF, hasF, needs, i0, b0, toI_int, toB_bool, List.getD_cons_zero, List.getD_cons_succ, List.cons_append, List.nil_append, List.replicate, if_true, if_false, Bool.false_eq_true, and_true, true_and, implies_true, forall_const, false_implies, cmpI, Bool.not_true, Bool.not_false, Bool.true_and, Bool.false_and, Bool.and_true, Bool.and_false, reduceIte, List.append_nil, reduceCtorEq]
        simp
        by_cases h1 : gcd3 a b c = 1
        · simp [h1]
        · rw [beq_eq_false_iff_ne.2 h1, beq_eq_false_iff_ne]
          omega

def tr_l2Low : Tr :=
  (.evs [.call 0 [(.var 2), (.var 0)] none 1,
    .call 0 [(.var 3), (.var 1)] none 1]
  (.evs [.need [(.cmp .neq (.var 4) (.int .i64 0)), (.cmp .neq (.var 4) (.int .i64 0)), (.cmp .neq (.var 4) (.int .i64 0))]]
  (.evs [.call 1 [(.ar .quo .i64 (.var 0) (.var 4)), (.ar .quo .i64 (.var 1) (.var 4)), (.ar .quo .i64 (.var 2) (.var 4))] none 1]
  (.ite (.not (.var 5))
  (.ret [(.int .i64 0), (.int .i64 0), (.int .i64 0), (.bool false)])
  (.ret [(.ar .quo .i64 (.var 0) (.var 4)), (.ar .quo .i64 (.var 1) (.var 4)), (.ar .quo .i64 (.var 2) (.var 4)), (.bool true)])))))
def Fs_l2Low : List Fun1 := [F_l2Gcd, G_sFracValid]
def F_l2Low : Fun1 := ofTree Fs_l2Low tr_l2Low
def G_l2Low : Fun1 := ⟨fun ins => lowOk (i0 ins 0) (i0 ins 1) (i0 ins 2), fun ins => fr4 (lowI (i0 ins 0) (i0 ins 1) (i0 ins 2))⟩
theorem as_l2Low (ins : List Value) (ht : TypedL [.int .i64, .int .i64, .int .i64] ins) (hp : G_l2Low.pre ins) : F_l2Low.pre ins ∧ F_l2Low.out ins = G_l2Low.out ins := by
  obtain ⟨a, b, c, rfl, wa, wb, wc⟩ := ints3 ht
  obtain ⟨p1, p2, p3, p4, p5, p6⟩ : lowOk a b c := hp
  have hc0 : 0 < c.natAbs := by omega
  have g1 : Nat.gcd c.natAbs a.natAbs ≤ c.natAbs := Nat.gcd_le_left _ hc0
  have gp : 0 < Nat.gcd c.natAbs a.natAbs := Nat.gcd_pos_of_pos_left _ hc0
  have e1 : mxI false (euc c a) (IntKind.i64.wrap (0 - euc c a)) = (Nat.gcd c.natAbs a.natAbs : Nat) := gcd_small (by omega)
  have g2 : Nat.gcd ((Nat.gcd c.natAbs a.natAbs : Nat) : Int).natAbs b.natAbs ≤ Nat.gcd c.natAbs a.natAbs := Nat.gcd_le_left _ gp
  have e2 : mxI false (euc (Nat.gcd c.natAbs a.natAbs : Nat) b) (IntKind.i64.wrap (0 - euc (Nat.gcd c.natAbs a.natAbs : Nat) b)) = (gcd3 a b c : Nat) := by
    rw [gcd_small (by omega), Int.natAbs_natCast, gcd3_alt]
  have hg : gcd3 a b c ≠ 0 := by have := gcd3_pos (a := a) (b := b) p5; omega
  have hgi : ((gcd3 a b c : Nat) : Int) ≠ 0 := by omega
  have q1 := quo_ok (g := gcd3 a b c) ⟨p1, p2⟩
  have q2 := quo_ok (g := gcd3 a b c) ⟨p3, p4⟩
  have q3 := quo_ok (a := c) (g := gcd3 a b c) ⟨by omega, p6⟩
  simp only [F_l2Low, G_l2Low, tr_l2Low, Fs_l2Low, F_l2Gcd, G_sFracValid, lowI, arI, ofTree, okT, okE, evalT, evalE, evsIn, ev, callF, preF, hasF, needs, i0, b0, toI_int, toB_bool, List.getD_cons_zero, List.getD_cons_succ, List.cons_append, List.nil_append, List.replicate, if_true, if_false, Bool.false_eq_true, and_true, true_and, implies_true, forall_const, false_implies, cmpI, Bool.not_true, Bool.not_false, Bool.true_and, Bool.false_and, Bool.and_true, Bool.and_false, reduceIte, List.append_nil, reduceCtorEq, e1, e2, q1, q2, q3, valid_low p5]
  cases h1 : inR (a.tdiv (gcd3 a b c)) <;> cases h2 : inR (b.tdiv (gcd3 a b c)) <;> by_cases h3 : c.tdiv (gcd3 a b c) ≤ 2000000000 <;> simp [h1, h2, h3, hgi, hg, fr4, zq] <;> omega
def A_l2Low : AF
  | [.itv a b, .itv c d, .itv e f] => if decide (-9223372036854775808 < a) && (decide (b ≤ 9223372036854775807) && (decide (-9223372036854775808 < c) && (decide (d ≤ 9223372036854775807) && (decide (1 ≤ e) && decide (f ≤ 9223372036854775807))))) then some [.any, .any, .any, .any] else none
  | _ => none
theorem aok_l2Low {cb : CodeB} : AOK cb G_l2Low A_l2Low := by
  intro I O h ins hi
  match I, ins, hi, h with
  | [.itv a b, .itv c d, .itv e f], [x, y, z], ⟨⟨x', hx, x1, x2⟩, ⟨y', hy, y1, y2⟩, ⟨z', hz, z1, z2⟩, _⟩, h =>
    simp only [A_l2Low] at h
    split at h
    · rename_i hc
      cases h
      simp only [Bool.and_eq_true, decide_eq_true_eq] at hc
      subst hx hy hz
      exact ⟨show lowOk x' y' z' by unfold lowOk; omega, trivial, trivial, trivial, trivial, trivial⟩
    · cases h

def tr_sFracMake : Tr :=
  (.evs [.call 0 [(.var 2), (.int .i64 1), (.int .i64 1000000000000000000)] none 1,
    .call 0 [(.var 0), (.int .i64 (-1000000000000000000)), (.int .i64 1000000000000000000)] (some (.not (.not (.var 3)))) 1,
    .call 0 [(.var 1), (.int .i64 (-1000000000000000000)), (.int .i64 1000000000000000000)] (some (.not (.ite (.not (.var 3)) (.bool true) (.not (.var 4))))) 1]
  (.ite (.ite (.ite (.not (.var 3)) (.bool true) (.not (.var 4))) (.bool true) (.not (.var 5)))
  (.ret [(.int .i64 0), (.int .i64 0), (.int .i64 0), (.bool false)])
  (.evs [.call 1 [(.var 0), (.var 1), (.var 2)] none 4]
   (.ret [(.var 6), (.var 7), (.var 8), (.var 9)]))))
def Fs_sFracMake : List Fun1 := [G_l6In, G_l2Low]
def F_sFracMake : Fun1 := ofTree Fs_sFracMake tr_sFracMake
def G_sFracMake : Fun1 := ⟨fun _ => True, fun ins => fr4 (makeI (i0 ins 0) (i0 ins 1) (i0 ins 2))⟩
theorem as_sFracMake (ins : List Value) (ht : TypedL [.int .i64, .int .i64, .int .i64] ins) (hp : G_sFracMake.pre ins) : F_sFracMake.pre ins ∧ F_sFracMake.out ins = G_sFracMake.out ins := by
  obtain ⟨a, b, c, rfl, wa, wb, wc⟩ := ints3 ht
  have hlow : inRg c 1 most = true → inRg a (-most) most = true → inRg b (-most) most = true → lowOk a b c := by
    intro h1 h2 h3
    simp only [inRg, Bool.and_eq_true, decide_eq_true_eq] at h1 h2 h3
    unfold most at h1 h2 h3
    unfold lowOk
    omega
  obtain ⟨x, y, z, t, hx⟩ := fr4_split (lowI a b c)
  simp only [F_sFracMake, G_sFracMake, tr_sFracMake, Fs_sFracMake, G_l6In, G_l2Low, makeI, ofTree, okT, okE, evalT, evalE, evsIn, ev, callF, preF, hasF, needs, i0, b0, toI_int, toB_bool, List.getD_cons_zero, List.getD_cons_succ, List.cons_append, List.nil_append, List.replicate, if_true, if_false, Bool.false_eq_true, and_true, true_and, implies_true, forall_const, false_implies, cmpI, Bool.not_true, Bool.not_false, Bool.true_and, Bool.false_and, Bool.and_true, Bool.and_false, reduceIte, List.append_nil, reduceCtorEq]
  have r1 : inRg c 1 1000000000000000000 = inRg c 1 most := rfl
  have r2 : ∀ z, inRg z (-1000000000000000000) 1000000000000000000 = inRg z (-most) most := fun _ => rfl
  simp only [r1, r2]
  cases h1 : inRg c 1 most
  · simp [h1, fr4, zq]
  · cases h2 : inRg a (-most) most
    · simp [h1, h2, fr4, zq]
    · cases h3 : inRg b (-most) most
      · simp [h1, h2, h3, fr4, zq]
      · simp [h1, h2, h3, hx, hlow h1 h2 h3]
def A_sFracMake : AF := aAny 4
theorem aok_sFracMake {cb : CodeB} : AOK cb G_sFracMake A_sFracMake := aAny_ok (fun _ => trivial) (fun ins => by rfl)

def tr_l5Direction : Tr :=
  (.evs [.call 0 [(.var 0), (.int .i64 (-100)), (.int .i64 100)] none 1,
    .call 0 [(.var 1), (.int .i64 (-100)), (.int .i64 100)] (some (.not (.not (.var 2)))) 1]
  (.ite (.ite (.ite (.not (.var 2)) (.bool true) (.not (.var 3))) (.bool true) (.ite (.cmp .eql (.var 0) (.int .i64 0)) (.cmp .eql (.var 1) (.int .i64 0)) (.bool false)))
  (.ret [(.int .i64 0), (.int .i64 0), (.int .i64 0), (.int .i64 0), (.int .i64 0), (.int .i64 0), (.bool false)])
  (.evs [.call 1 [(.ar .sub .i64 (.ar .mul .i64 (.var 0) (.var 0)) (.ar .mul .i64 (.var 1) (.var 1))), (.int .i64 0), (.ar .add .i64 (.ar .mul .i64 (.var 0) (.var 0)) (.ar .mul .i64 (.var 1) (.var 1)))] none 4]
   (.evs [.call 1 [(.ar .mul .i64 (.ar .mul .i64 (.int .i64 2) (.var 0)) (.var 1)), (.int .i64 0), (.ar .add .i64 (.ar .mul .i64 (.var 0) (.var 0)) (.ar .mul .i64 (.var 1) (.var 1)))] none 4]
   (.ret [(.var 4), (.var 5), (.var 6), (.var 8), (.var 9), (.var 10), (.bool true)])))))
def Fs_l5Direction : List Fun1 := [G_l6In, G_sFracMake]
def F_l5Direction : Fun1 := ofTree Fs_l5Direction tr_l5Direction
def G_l5Direction : Fun1 := ⟨fun _ => True, fun ins => dirV (i0 ins 0) (i0 ins 1)⟩
theorem as_l5Direction (ins : List Value) (ht : TypedL [.int .i64, .int .i64] ins) (hp : G_l5Direction.pre ins) : F_l5Direction.pre ins ∧ F_l5Direction.out ins = G_l5Direction.out ins := by
  obtain ⟨p, q, rfl, wp, wq⟩ := ints2 ht
  obtain ⟨x1, y1, z1, t1, hx1, hx1'⟩ := fr4_fr3 (lowI (p * p - q * q) 0 (p * p + q * q))
  obtain ⟨x2, y2, z2, t2, hx2, hx2'⟩ := fr4_fr3 (lowI (2 * p * q) 0 (p * p + q * q))
  simp only [F_l5Direction, G_l5Direction, tr_l5Direction, Fs_l5Direction, G_l6In, G_sFracMake, arI, ofTree, okT, okE, evalT, evalE, evsIn, ev, callF, preF, hasF, needs, i0, b0, toI_int, toB_bool, List.getD_cons_zero, List.getD_cons_succ, List.cons_append, List.nil_append, List.replicate, if_true, if_false, Bool.false_eq_true, and_true, true_and, implies_true, forall_const, false_implies, cmpI, Bool.not_true, Bool.not_false, Bool.true_and, Bool.false_and, Bool.and_true, Bool.and_false, reduceIte, List.append_nil, reduceCtorEq]
  cases h1 : inRg p (-100) 100
  · simp [h1, dirV, dirOk, dirC, dirS, fr3, zq]
  · cases h2 : inRg q (-100) 100
    · simp [h1, h2, dirV, dirOk, dirC, dirS, fr3, zq]
    · by_cases h3 : (p == 0 && q == 0) = true
      · have e3 := h3
        simp only [Bool.and_eq_true, beq_iff_eq] at e3
        obtain ⟨rfl, rfl⟩ := e3
        simp [h1, dirV, dirOk, dirC, dirS, fr3, zq]
      · have hd : dirOk p q = true := by
          simp only [dirOk, h1, h2, Bool.true_and]
          cases hb : (p == 0 && q == 0) with
          | true => exact absurd hb h3
          | false => rfl
        obtain ⟨l1, l2, w1, w2, w3, w4, w5, w6, k1, k2, k3, k4, k5, k6⟩ := dir_facts hd
        have h3' : (p == 0 && q == 0) = false := by simpa using h3
        have h4 : ¬(p = 0 ∧ q = 0) := by rintro ⟨rfl, rfl⟩; exact h3 rfl
        have m1 := make_small k3 k4 k1 k2
        have m2 := make_small k5 k6 k1 k2
        simp only [m1, m2, dirV, dirC, dirS, hd, if_true, hx1', hx2', w1, w2, w3, w4, w5, w6, hx1, hx2, h1, h2, ofTree, okT, okE, evalT, evalE, evsIn, ev, callF, preF, hasF, needs, i0, b0, toI_int, toB_bool, List.getD_cons_zero, List.getD_cons_succ, List.cons_append, List.nil_append, List.replicate, if_true, if_false, Bool.false_eq_true, and_true, true_and, implies_true, forall_const, false_implies, cmpI, Bool.not_true, Bool.not_false, Bool.true_and, Bool.false_and, Bool.and_true, Bool.and_false, reduceIte, List.append_nil, reduceCtorEq]
        clear m1 m2 k1 k2 k3 k4 k5 k6 hd w1 w2 w3 w4 w5 w6 hx1 hx2 hx1' hx2' h1 h2 ht hp
        generalize p * p - q * q = A at *
        generalize 2 * p * q = B at *
        generalize p * p + q * q = C at *
        by_cases h5 : p = 0
        · by_cases h6 : q = 0
          · exact absurd ⟨h5, h6⟩ h4
          · simp [h5, h6, l1, l2]
        · simp [h5, l1, l2]
def A_l5Direction : AF := aAny 7
theorem aok_l5Direction {cb : CodeB} : AOK cb G_l5Direction A_l5Direction := aAny_ok (fun _ => trivial) (fun ins => by rfl)

def tr_iFracValid : Tr :=
  (.evs [.call 0 [(.var 0), (.int .i64 (-2000000000)), (.int .i64 2000000000)] none 1,
    .call 0 [(.var 1), (.int .i64 (-2000000000)), (.int .i64 2000000000)] (some (.var 3)) 1,
    .call 0 [(.var 2), (.int .i64 1), (.int .i64 2000000000)] (some (.ite (.var 3) (.var 4) (.bool false))) 1,
    .call 2 [(.var 0)] (some (.ite (.ite (.var 3) (.var 4) (.bool false)) (.var 5) (.bool false))) 1,
    .call 2 [(.var 1)] (some (.ite (.ite (.var 3) (.var 4) (.bool false)) (.var 5) (.bool false))) 1,
    .call 1 [(.var 6), (.var 7)] (some (.ite (.ite (.var 3) (.var 4) (.bool false)) (.var 5) (.bool false))) 1,
    .call 1 [(.var 8), (.var 2)] (some (.ite (.ite (.var 3) (.var 4) (.bool false)) (.var 5) (.bool false))) 1]
  (.ret [(.ite (.ite (.ite (.var 3) (.var 4) (.bool false)) (.var 5) (.bool false)) (.cmp .eql (.var 9) (.int .i64 1)) (.bool false))]))
def Fs_iFracValid : List Fun1 := [G_within, F_divisor, F_size]
def F_iFracValid : Fun1 := ofTree Fs_iFracValid tr_iFracValid
def G_iFracValid : Fun1 := ⟨fun _ => True, fun ins => [.bool (validI (i0 ins 0) (i0 ins 1) (i0 ins 2))]⟩
theorem as_iFracValid (ins : List Value) (ht : TypedL [.int .i64, .int .i64, .int .i64] ins) (_ : G_iFracValid.pre ins) : F_iFracValid.pre ins ∧ F_iFracValid.out ins = G_iFracValid.out ins := by
  obtain ⟨a, b, c, rfl, wa, wb, wc⟩ := ints3 ht
  have key : inR a = true → inR b = true → inRg c 1 2000000000 = true → mxI false a (IntKind.i64.wrap (0 - a)) = a.natAbs ∧ mxI false b (IntKind.i64.wrap (0 - b)) = b.natAbs ∧
      euc (a.natAbs : Nat) (b.natAbs : Nat) = (Nat.gcd a.natAbs b.natAbs : Nat) ∧ euc (Nat.gcd a.natAbs b.natAbs : Nat) c = (gcd3 a b c : Nat) := by
    intro ha hb hc
    simp only [inR, inRg, Bool.and_eq_true, decide_eq_true_eq] at ha hb hc
    exact ⟨size_abs (by omega), size_abs (by omega), euc_nat _ _, by rw [euc_eq (by omega) (by omega)]; rfl⟩
  have r1 : ∀ z, inRg z (-2000000000) 2000000000 = inR z := fun _ => rfl
  cases ha : inR a
  · simp only [F_iFracValid, G_iFracValid, tr_iFracValid, Fs_iFracValid, G_within, F_divisor, F_size, tr_size, Fs_size, validI, arI, r1, ha, ofTree, okT, okE, evalT, evalE, evsIn, ev, callF, preF, hasF, needs, i0, b0, toI_int, toB_bool, List.getD_cons_zero, List.getD_cons_succ, List.cons_append, List.nil_append, List.replicate, if_true, if_false, Bool.false_eq_true, and_true, true_and, implies_true, forall_const, false_implies, cmpI, Bool.not_true, Bool.not_false, Bool.true_and, Bool.false_and, Bool.and_true, Bool.and_false, reduceIte, List.append_nil, reduceCtorEq]
  · cases hb : inR b
    · simp only [F_iFracValid, G_iFracValid, tr_iFracValid, Fs_iFracValid, G_within, F_divisor, F_size, tr_size, Fs_size, validI, arI, r1, ha, hb, ofTree, okT, okE, evalT, evalE, evsIn, ev, callF, preF, hasF, needs, i0, b0, toI_int, toB_bool, List.getD_cons_zero, List.getD_cons_succ, List.cons_append, List.nil_append, List.replicate, if_true, if_false, Bool.false_eq_true, and_true, true_and, implies_true, forall_const, false_implies, cmpI, Bool.not_true, Bool.not_false, Bool.true_and, Bool.false_and, Bool.and_true, Bool.and_false, reduceIte, List.append_nil, reduceCtorEq]
    · cases hc : inRg c 1 2000000000
      · simp only [F_iFracValid, G_iFracValid, tr_iFracValid, Fs_iFracValid, G_within, F_divisor, F_size, tr_size, Fs_size, validI, arI, r1, ha, hb, hc, ofTree, okT, okE, evalT, evalE, evsIn, ev, callF, preF, hasF, needs, i0, b0, toI_int, toB_bool, List.getD_cons_zero, List.getD_cons_succ, List.cons_append, List.nil_append, List.replicate, if_true, if_false, Bool.false_eq_true, and_true, true_and, implies_true, forall_const, false_implies, cmpI, Bool.not_true, Bool.not_false, Bool.true_and, Bool.false_and, Bool.and_true, Bool.and_false, reduceIte, List.append_nil, reduceCtorEq]
      · obtain ⟨k1, k2, k3, k4⟩ := key ha hb hc
        simp only [F_iFracValid, G_iFracValid, tr_iFracValid, Fs_iFracValid, G_within, F_divisor, F_size, tr_size, Fs_size, validI, arI, r1, ha, hb, hc, k1, k2, k3, k4, ofTree, okT, okE, evalT, evalE, evsIn, ev, callF, preF, hasF, needs, i0, b0, toI_int, toB_bool, List.getD_cons_zero, List.getD_cons_succ, List.cons_append, List.nil_append, List.replicate, if_true, if_false, Bool.false_eq_true, and_true, true_and, implies_true, forall_const, false_implies, cmpI, Bool.not_true, Bool.not_false, Bool.true_and, Bool.false_and, Bool.and_true, Bool.and_false, reduceIte, List.append_nil, reduceCtorEq]
        by_cases h1 : gcd3 a b c = 1
        · simp [h1]
        · have h2 : ((gcd3 a b c : Nat) : Int) ≠ 1 := by omega
          rw [beq_eq_false_iff_ne.2 h2, beq_eq_false_iff_ne.2 h1]

def tr_realOk : Tr :=
  (.evs [.call 0 [(.var 0), (.var 1), (.var 2)] none 1]
  (.ret [(.ite (.var 3) (.cmp .eql (.var 1) (.int .i64 0)) (.bool false))]))
def Fs_realOk : List Fun1 := [G_iFracValid]
def F_realOk : Fun1 := ofTree Fs_realOk tr_realOk
def G_realOk : Fun1 := ⟨fun _ => True, fun ins => [.bool (realQ (q3 ins 0))]⟩
theorem as_realOk (ins : List Value) (ht : TypedL [.int .i64, .int .i64, .int .i64] ins) (_ : G_realOk.pre ins) : F_realOk.pre ins ∧ F_realOk.out ins = G_realOk.out ins := by
  obtain ⟨a, b, c, rfl, wa, wb, wc⟩ := ints3 ht
  simp only [F_realOk, G_realOk, tr_realOk, Fs_realOk, G_iFracValid, realQ, validQ, q3, ofTree, okT, okE, evalT, evalE, evsIn, ev, callF, preF, hasF, needs, i0, b0, toI_int, toB_bool, List.getD_cons_zero, List.getD_cons_succ, List.cons_append, List.nil_append, List.replicate, if_true, if_false, Bool.false_eq_true, and_true, true_and, implies_true, forall_const, false_implies, cmpI, Bool.not_true, Bool.not_false, Bool.true_and, Bool.false_and, Bool.and_true, Bool.and_false, reduceIte, List.append_nil, reduceCtorEq]
  cases h : validI a b c <;> simp [h]

def tr_iFracAdd : Tr :=
  (.evs [.call 0 [(.var 0), (.var 1), (.var 2)] none 1,
    .call 0 [(.var 3), (.var 4), (.var 5)] (some (.not (.not (.var 6)))) 1]
  (.ite (.ite (.not (.var 6)) (.bool true) (.not (.var 7)))
  (.ret [(.int .i64 0), (.int .i64 0), (.int .i64 0), (.bool false)])
  (.evs [.call 1 [(.ar .add .i64 (.ar .mul .i64 (.var 0) (.var 5)) (.ar .mul .i64 (.var 3) (.var 2))), (.ar .add .i64 (.ar .mul .i64 (.var 1) (.var 5)) (.ar .mul .i64 (.var 4) (.var 2))), (.ar .mul .i64 (.var 2) (.var 5))] none 4]
   (.ret [(.var 8), (.var 9), (.var 10), (.var 11)]))))
def Fs_iFracAdd : List Fun1 := [G_iFracValid, G_lowest]
def F_iFracAdd : Fun1 := ofTree Fs_iFracAdd tr_iFracAdd
def G_iFracAdd : Fun1 := ⟨fun _ => True, fun ins => fr4 (addQ (q3 ins 0) (q3 ins 3))⟩
theorem as_iFracAdd (ins : List Value) (ht : TypedL [.int .i64, .int .i64, .int .i64, .int .i64, .int .i64, .int .i64] ins) (_ : G_iFracAdd.pre ins) : F_iFracAdd.pre ins ∧ F_iFracAdd.out ins = G_iFracAdd.out ins := by
  obtain ⟨a, b, c, x, y, z, rfl, _⟩ := ints6 ht
  simp only [F_iFracAdd, G_iFracAdd, tr_iFracAdd, Fs_iFracAdd, G_iFracValid, G_lowest, addQ, validQ, q3, arI, ofTree, okT, okE, evalT, evalE, evsIn, ev, callF, preF, hasF, needs, i0, b0, toI_int, toB_bool, List.getD_cons_zero, List.getD_cons_succ, List.cons_append, List.nil_append, List.replicate, if_true, if_false, Bool.false_eq_true, and_true, true_and, implies_true, forall_const, false_implies, cmpI, Bool.not_true, Bool.not_false, Bool.true_and, Bool.false_and, Bool.and_true, Bool.and_false, reduceIte, List.append_nil, reduceCtorEq]
  cases h : validI a b c
  · simp [h, fr4, zq]
  · cases k : validI x y z
    · simp [h, k, fr4, zq]
    · obtain ⟨e1, e2, e3, e4, e5, e6, e7, e8, e9, l1, l2⟩ := sum_facts h k
      simp only [h, k, e1, e2, e3, e4, e5, e6, e7, ofTree, okT, okE, evalT, evalE, evsIn, ev, callF, preF, hasF, needs, i0, b0, toI_int, toB_bool, List.getD_cons_zero, List.getD_cons_succ, List.cons_append, List.nil_append, List.replicate, if_true, if_false, Bool.false_eq_true, and_true, true_and, implies_true, forall_const, false_implies, cmpI, Bool.not_true, Bool.not_false, Bool.true_and, Bool.false_and, Bool.and_true, Bool.and_false, reduceIte, List.append_nil, reduceCtorEq]
      simp [fr4, l1]

def tr_iFracTimes : Tr :=
  (.evs [.call 0 [(.var 0), (.var 1), (.var 2)] none 1,
    .call 0 [(.var 3), (.var 4), (.var 5)] (some (.not (.not (.var 6)))) 1]
  (.ite (.ite (.not (.var 6)) (.bool true) (.not (.var 7)))
  (.ret [(.int .i64 0), (.int .i64 0), (.int .i64 0), (.bool false)])
  (.evs [.call 1 [(.ar .sub .i64 (.ar .mul .i64 (.var 0) (.var 3)) (.ar .mul .i64 (.var 1) (.var 4))), (.ar .add .i64 (.ar .mul .i64 (.var 0) (.var 4)) (.ar .mul .i64 (.var 1) (.var 3))), (.ar .mul .i64 (.var 2) (.var 5))] none 4]
   (.ret [(.var 8), (.var 9), (.var 10), (.var 11)]))))
def Fs_iFracTimes : List Fun1 := [G_iFracValid, G_lowest]
def F_iFracTimes : Fun1 := ofTree Fs_iFracTimes tr_iFracTimes
def G_iFracTimes : Fun1 := ⟨fun _ => True, fun ins => fr4 (timesQ (q3 ins 0) (q3 ins 3))⟩
theorem as_iFracTimes (ins : List Value) (ht : TypedL [.int .i64, .int .i64, .int .i64, .int .i64, .int .i64, .int .i64] ins) (_ : G_iFracTimes.pre ins) : F_iFracTimes.pre ins ∧ F_iFracTimes.out ins = G_iFracTimes.out ins := by
  obtain ⟨a, b, c, x, y, z, rfl, _⟩ := ints6 ht
  simp only [F_iFracTimes, G_iFracTimes, tr_iFracTimes, Fs_iFracTimes, G_iFracValid, G_lowest, timesQ, validQ, q3, arI, ofTree, okT, okE, evalT, evalE, evsIn, ev, callF, preF, hasF, needs, i0, b0, toI_int, toB_bool, List.getD_cons_zero, List.getD_cons_succ, List.cons_append, List.nil_append, List.replicate, if_true, if_false, Bool.false_eq_true, and_true, true_and, implies_true, forall_const, false_implies, cmpI, Bool.not_true, Bool.not_false, Bool.true_and, Bool.false_and, Bool.and_true, Bool.and_false, reduceIte, List.append_nil, reduceCtorEq]
  cases h : validI a b c
  · simp [h, fr4, zq]
  · cases k : validI x y z
    · simp [h, k, fr4, zq]
    · obtain ⟨e1, e2, e3, e4, e5, e6, e7, l1⟩ := mul_facts h k
      simp only [h, k, e1, e2, e3, e4, e5, e6, e7, ofTree, okT, okE, evalT, evalE, evsIn, ev, callF, preF, hasF, needs, i0, b0, toI_int, toB_bool, List.getD_cons_zero, List.getD_cons_succ, List.cons_append, List.nil_append, List.replicate, if_true, if_false, Bool.false_eq_true, and_true, true_and, implies_true, forall_const, false_implies, cmpI, Bool.not_true, Bool.not_false, Bool.true_and, Bool.false_and, Bool.and_true, Bool.and_false, reduceIte, List.append_nil, reduceCtorEq]
      simp [fr4, l1]

def tr_l2Sum : Tr :=
  (.evs [.call 0 [(.var 0), (.var 1), (.var 2)] none 1,
    .call 0 [(.var 4), (.var 5), (.var 6)] (some (.not (.not (.var 7)))) 1]
  (.ite (.ite (.not (.var 7)) (.bool true) (.not (.var 8)))
  (.ret [(.int .i64 0), (.int .i64 0), (.int .i64 0), (.bool false)])
  (.evs [.call 1 [(.ar .add .i64 (.ar .mul .i64 (.var 0) (.var 6)) (.ar .mul .i64 (.ar .mul .i64 (.var 3) (.var 4)) (.var 2))), (.ar .add .i64 (.ar .mul .i64 (.var 1) (.var 6)) (.ar .mul .i64 (.ar .mul .i64 (.var 3) (.var 5)) (.var 2))), (.ar .mul .i64 (.var 2) (.var 6))] none 4]
   (.ret [(.var 9), (.var 10), (.var 11), (.var 12)]))))
def Fs_l2Sum : List Fun1 := [G_sFracValid, G_l2Low]
def F_l2Sum : Fun1 := ofTree Fs_l2Sum tr_l2Sum
def G_l2Sum : Fun1 := ⟨fun ins => i0 ins 3 = 1 ∨ i0 ins 3 = -1, fun ins => fr4 (if i0 ins 3 = 1 then addQ (q3 ins 0) (q3 ins 4) else lessQ (q3 ins 0) (q3 ins 4))⟩
theorem as_l2Sum (ins : List Value) (ht : TypedL [.int .i64, .int .i64, .int .i64, .int .i64, .int .i64, .int .i64, .int .i64] ins) (hp : G_l2Sum.pre ins) : F_l2Sum.pre ins ∧ F_l2Sum.out ins = G_l2Sum.out ins := by
  obtain ⟨a, r1, rfl, w1, ht1⟩ := int_cons ht
  obtain ⟨b, c, s, x, y, z, rfl, _⟩ := ints6 ht1
  have hs : s = 1 ∨ s = -1 := hp
  clear hp
  cases h : validI a b c
  · rcases hs with rfl | rfl <;>
    · simp only [F_l2Sum, G_l2Sum, tr_l2Sum, Fs_l2Sum, G_sFracValid, G_l2Low, addQ, lessQ, validQ, q3, arI, h, ofTree, okT, okE, evalT, evalE, evsIn, ev, callF, preF, hasF, needs, i0, b0, toI_int, toB_bool, List.getD_cons_zero, List.getD_cons_succ, List.cons_append, List.nil_append, List.replicate, if_true, if_false, Bool.false_eq_true, and_true, true_and, implies_true, forall_const, false_implies, cmpI, Bool.not_true, Bool.not_false, Bool.true_and, Bool.false_and, Bool.and_true, Bool.and_false, reduceIte, List.append_nil, reduceCtorEq]
      simp [fr4, zq]
  · cases k : validI x y z
    · rcases hs with rfl | rfl <;>
      · simp only [F_l2Sum, G_l2Sum, tr_l2Sum, Fs_l2Sum, G_sFracValid, G_l2Low, addQ, lessQ, validQ, q3, arI, h, k, ofTree, okT, okE, evalT, evalE, evsIn, ev, callF, preF, hasF, needs, i0, b0, toI_int, toB_bool, List.getD_cons_zero, List.getD_cons_succ, List.cons_append, List.nil_append, List.replicate, if_true, if_false, Bool.false_eq_true, and_true, true_and, implies_true, forall_const, false_implies, cmpI, Bool.not_true, Bool.not_false, Bool.true_and, Bool.false_and, Bool.and_true, Bool.and_false, reduceIte, List.append_nil, reduceCtorEq]
        simp [fr4, zq]
    · obtain ⟨e1, e2, e3, e4, e5, e6, e7, e8, e9, l1, l2⟩ := sum_facts h k
      obtain ⟨k1, k2, _⟩ := valid_bounds k
      rcases hs with rfl | rfl
      · have u1 : IntKind.i64.wrap (1 * x) = x := by rw [Int.one_mul]; exact wrap_in (by omega)
        have u2 : IntKind.i64.wrap (1 * y) = y := by rw [Int.one_mul]; exact wrap_in (by omega)
        simp only [F_l2Sum, G_l2Sum, tr_l2Sum, Fs_l2Sum, G_sFracValid, G_l2Low, addQ, lessQ, validQ, q3, arI, h, k, u1, u2, e1, e2, e3, e4, e5, e6, e7, ofTree, okT, okE, evalT, evalE, evsIn, ev, callF, preF, hasF, needs, i0, b0, toI_int, toB_bool, List.getD_cons_zero, List.getD_cons_succ, List.cons_append, List.nil_append, List.replicate, if_true, if_false, Bool.false_eq_true, and_true, true_and, implies_true, forall_const, false_implies, cmpI, Bool.not_true, Bool.not_false, Bool.true_and, Bool.false_and, Bool.and_true, Bool.and_false, reduceIte, List.append_nil, reduceCtorEq]
        simp [fr4, l1]
      · have u1 : IntKind.i64.wrap (-1 * x) = -x := by rw [Int.neg_one_mul]; exact wrap_in (by omega)
        have u2 : IntKind.i64.wrap (-1 * y) = -y := by rw [Int.neg_one_mul]; exact wrap_in (by omega)
        have m2 := mulB k1 (b := c) (by have := valid_bounds h; omega)
        have m4 := mulB k2 (b := c) (by have := valid_bounds h; omega)
        have v1 : IntKind.i64.wrap (-x * c) = -(x * c) := by rw [Int.neg_mul]; exact wrap_in (by omega)
        have v2 : IntKind.i64.wrap (-y * c) = -(y * c) := by rw [Int.neg_mul]; exact wrap_in (by omega)
        have v3 : IntKind.i64.wrap (a * z + -(x * c)) = a * z - x * c := by rw [← Int.sub_eq_add_neg]; exact e8
        have v4 : IntKind.i64.wrap (b * z + -(y * c)) = b * z - y * c := by rw [← Int.sub_eq_add_neg]; exact e9
        simp only [F_l2Sum, G_l2Sum, tr_l2Sum, Fs_l2Sum, G_sFracValid, G_l2Low, addQ, lessQ, validQ, q3, arI, h, k, u1, u2, v1, v2, v3, v4, e1, e3, e5, ofTree, okT, okE, evalT, evalE, evsIn, ev, callF, preF, hasF, needs, i0, b0, toI_int, toB_bool, List.getD_cons_zero, List.getD_cons_succ, List.cons_append, List.nil_append, List.replicate, if_true, if_false, Bool.false_eq_true, and_true, true_and, implies_true, forall_const, false_implies, cmpI, Bool.not_true, Bool.not_false, Bool.true_and, Bool.false_and, Bool.and_true, Bool.and_false, reduceIte, List.append_nil, reduceCtorEq]
        simp [fr4, l2]

def tr_sFracAdd : Tr :=
  (.evs [.call 0 [(.var 0), (.var 1), (.var 2), (.int .i64 1), (.var 3), (.var 4), (.var 5)] none 4]
  (.ret [(.var 6), (.var 7), (.var 8), (.var 9)]))
def Fs_sFracAdd : List Fun1 := [G_l2Sum]
def F_sFracAdd : Fun1 := ofTree Fs_sFracAdd tr_sFracAdd
def G_sFracAdd : Fun1 := ⟨fun _ => True, fun ins => fr4 (addQ (q3 ins 0) (q3 ins 3))⟩
theorem as_sFracAdd (ins : List Value) (ht : TypedL [.int .i64, .int .i64, .int .i64, .int .i64, .int .i64, .int .i64] ins) (_ : G_sFracAdd.pre ins) : F_sFracAdd.pre ins ∧ F_sFracAdd.out ins = G_sFracAdd.out ins := by
  obtain ⟨a, b, c, x, y, z, rfl, _⟩ := ints6 ht
  exact ⟨⟨⟨.inl rfl, trivial⟩, trivial⟩, rfl⟩
def A_sFracAdd : AF := aAny 4
theorem aok_sFracAdd {cb : CodeB} : AOK cb G_sFracAdd A_sFracAdd := aAny_ok (fun _ => trivial) (fun ins => by rfl)

def tr_sFracTimes : Tr :=
  (.evs [.call 0 [(.var 0), (.var 1), (.var 2)] none 1,
    .call 0 [(.var 3), (.var 4), (.var 5)] (some (.not (.not (.var 6)))) 1]
  (.ite (.ite (.not (.var 6)) (.bool true) (.not (.var 7)))
  (.ret [(.int .i64 0), (.int .i64 0), (.int .i64 0), (.bool false)])
  (.evs [.call 1 [(.ar .sub .i64 (.ar .mul .i64 (.var 0) (.var 3)) (.ar .mul .i64 (.var 1) (.var 4))), (.ar .add .i64 (.ar .mul .i64 (.var 0) (.var 4)) (.ar .mul .i64 (.var 1) (.var 3))), (.ar .mul .i64 (.var 2) (.var 5))] none 4]
   (.ret [(.var 8), (.var 9), (.var 10), (.var 11)]))))
def Fs_sFracTimes : List Fun1 := [G_sFracValid, G_l2Low]
def F_sFracTimes : Fun1 := ofTree Fs_sFracTimes tr_sFracTimes
def G_sFracTimes : Fun1 := ⟨fun _ => True, fun ins => fr4 (timesQ (q3 ins 0) (q3 ins 3))⟩
theorem as_sFracTimes (ins : List Value) (ht : TypedL [.int .i64, .int .i64, .int .i64, .int .i64, .int .i64, .int .i64] ins) (_ : G_sFracTimes.pre ins) : F_sFracTimes.pre ins ∧ F_sFracTimes.out ins = G_sFracTimes.out ins := by
  obtain ⟨a, b, c, x, y, z, rfl, _⟩ := ints6 ht
  simp only [F_sFracTimes, G_sFracTimes, tr_sFracTimes, Fs_sFracTimes, G_sFracValid, G_l2Low, timesQ, validQ, q3, arI, ofTree, okT, okE, evalT, evalE, evsIn, ev, callF, preF, hasF, needs, i0, b0, toI_int, toB_bool, List.getD_cons_zero, List.getD_cons_succ, List.cons_append, List.nil_append, List.replicate, if_true, if_false, Bool.false_eq_true, and_true, true_and, implies_true, forall_const, false_implies, cmpI, Bool.not_true, Bool.not_false, Bool.true_and, Bool.false_and, Bool.and_true, Bool.and_false, reduceIte, List.append_nil, reduceCtorEq]
  cases h : validI a b c
  · simp [h, fr4, zq]
  · cases k : validI x y z
    · simp [h, k, fr4, zq]
    · obtain ⟨e1, e2, e3, e4, e5, e6, e7, l1⟩ := mul_facts h k
      simp only [h, k, e1, e2, e3, e4, e5, e6, e7, ofTree, okT, okE, evalT, evalE, evsIn, ev, callF, preF, hasF, needs, i0, b0, toI_int, toB_bool, List.getD_cons_zero, List.getD_cons_succ, List.cons_append, List.nil_append, List.replicate, if_true, if_false, Bool.false_eq_true, and_true, true_and, implies_true, forall_const, false_implies, cmpI, Bool.not_true, Bool.not_false, Bool.true_and, Bool.false_and, Bool.and_true, Bool.and_false, reduceIte, List.append_nil, reduceCtorEq]
      simp [fr4, l1]
def A_sFracTimes : AF := aAny 4
theorem aok_sFracTimes {cb : CodeB} : AOK cb G_sFracTimes A_sFracTimes := aAny_ok (fun _ => trivial) (fun ins => by rfl)

def tr_keep : Tr :=
  (.ite (.not (.var 3))
  (.ret [(.int .i64 0), (.int .i64 0), (.int .i64 0), (.bool true)])
  (.ret [(.var 0), (.var 1), (.var 2), (.var 4)]))
def Fs_keep : List Fun1 := []
def F_keep : Fun1 := ofTree Fs_keep tr_keep

def tr_add : Tr :=
  (.evs [.call 0 [(.var 0), (.var 1), (.var 2), (.var 3), (.var 4), (.var 5)] none 4,
    .call 1 [(.var 7), (.var 8), (.var 9), (.var 10), (.var 6)] none 4]
  (.ret [(.var 11), (.var 12), (.var 13), (.var 14)]))
def Fs_add : List Fun1 := [G_iFracAdd, F_keep]
def F_add : Fun1 := ofTree Fs_add tr_add
def G_add : Fun1 := ⟨fun _ => True, fun ins => fr3 (addQ (q3 ins 0) (q3 ins 3)) ++ [.bool (b0 ins 6 || !(addQ (q3 ins 0) (q3 ins 3)).isSome)]⟩
theorem as_add (ins : List Value) (ht : TypedL [.int .i64, .int .i64, .int .i64, .int .i64, .int .i64, .int .i64, .bool] ins) (_ : G_add.pre ins) : F_add.pre ins ∧ F_add.out ins = G_add.out ins := by
  obtain ⟨a, r1, rfl, _, ht1⟩ := int_cons ht
  obtain ⟨b, r2, rfl, _, ht2⟩ := int_cons ht1
  obtain ⟨c, r3, rfl, _, ht3⟩ := int_cons ht2
  obtain ⟨x, r4, rfl, _, ht4⟩ := int_cons ht3
  obtain ⟨y, r5, rfl, _, ht5⟩ := int_cons ht4
  obtain ⟨z, r6, rfl, _, ht6⟩ := int_cons ht5
  obtain ⟨t, r7, rfl, ht7⟩ := bool_cons ht6
  obtain rfl := ints0 ht7
  simp only [F_add, G_add, tr_add, Fs_add, G_iFracAdd, F_keep, tr_keep, Fs_keep, q3, fr4, fr3, ofTree, okT, okE, evalT, evalE, evsIn, ev, callF, preF, hasF, needs, i0, b0, toI_int, toB_bool, List.getD_cons_zero, List.getD_cons_succ, List.cons_append, List.nil_append, List.replicate, if_true, if_false, Bool.false_eq_true, and_true, true_and, implies_true, forall_const, false_implies, cmpI, Bool.not_true, Bool.not_false, Bool.true_and, Bool.false_and, Bool.and_true, Bool.and_false, reduceIte, List.append_nil, reduceCtorEq]
  cases h : addQ (a, b, c) (x, y, z) <;> simp [zq]

def tr_times : Tr :=
  (.evs [.call 0 [(.var 0), (.var 1), (.var 2), (.var 3), (.var 4), (.var 5)] none 4,
    .call 1 [(.var 7), (.var 8), (.var 9), (.var 10), (.var 6)] none 4]
  (.ret [(.var 11), (.var 12), (.var 13), (.var 14)]))
def Fs_times : List Fun1 := [G_iFracTimes, F_keep]
def F_times : Fun1 := ofTree Fs_times tr_times
def G_times : Fun1 := ⟨fun _ => True, fun ins => fr3 (timesQ (q3 ins 0) (q3 ins 3)) ++ [.bool (b0 ins 6 || !(timesQ (q3 ins 0) (q3 ins 3)).isSome)]⟩
theorem as_times (ins : List Value) (ht : TypedL [.int .i64, .int .i64, .int .i64, .int .i64, .int .i64, .int .i64, .bool] ins) (_ : G_times.pre ins) : F_times.pre ins ∧ F_times.out ins = G_times.out ins := by
  obtain ⟨a, r1, rfl, _, ht1⟩ := int_cons ht
  obtain ⟨b, r2, rfl, _, ht2⟩ := int_cons ht1
  obtain ⟨c, r3, rfl, _, ht3⟩ := int_cons ht2
  obtain ⟨x, r4, rfl, _, ht4⟩ := int_cons ht3
  obtain ⟨y, r5, rfl, _, ht5⟩ := int_cons ht4
  obtain ⟨z, r6, rfl, _, ht6⟩ := int_cons ht5
  obtain ⟨t, r7, rfl, ht7⟩ := bool_cons ht6
  obtain rfl := ints0 ht7
  simp only [F_times, G_times, tr_times, Fs_times, G_iFracTimes, F_keep, tr_keep, Fs_keep, q3, fr4, fr3, ofTree, okT, okE, evalT, evalE, evsIn, ev, callF, preF, hasF, needs, i0, b0, toI_int, toB_bool, List.getD_cons_zero, List.getD_cons_succ, List.cons_append, List.nil_append, List.replicate, if_true, if_false, Bool.false_eq_true, and_true, true_and, implies_true, forall_const, false_implies, cmpI, Bool.not_true, Bool.not_false, Bool.true_and, Bool.false_and, Bool.and_true, Bool.and_false, reduceIte, List.append_nil, reduceCtorEq]
  cases h : timesQ (a, b, c) (x, y, z) <;> simp [zq]

def tr_need : Tr :=
  (.ite (.not (.var 0))
  (.ret [(.bool true)])
  (.ret [(.var 1)]))
def Fs_need : List Fun1 := []
def F_need : Fun1 := ofTree Fs_need tr_need
def G_need : Fun1 := ⟨fun _ => True, fun ins => [.bool (b0 ins 1 || !b0 ins 0)]⟩
theorem as_need (ins : List Value) (ht : TypedL [.bool, .bool] ins) (_ : G_need.pre ins) : F_need.pre ins ∧ F_need.out ins = G_need.out ins := by
  obtain ⟨s, r1, rfl, ht1⟩ := bool_cons ht
  obtain ⟨t, r2, rfl, ht2⟩ := bool_cons ht1
  obtain rfl := ints0 ht2
  simp only [F_need, G_need, tr_need, Fs_need, ofTree, okT, okE, evalT, evalE, evsIn, ev, callF, preF, hasF, needs, i0, b0, toI_int, toB_bool, List.getD_cons_zero, List.getD_cons_succ, List.cons_append, List.nil_append, List.replicate, if_true, if_false, Bool.false_eq_true, and_true, true_and, implies_true, forall_const, false_implies, cmpI, Bool.not_true, Bool.not_false, Bool.true_and, Bool.false_and, Bool.and_true, Bool.and_false, reduceIte, List.append_nil, reduceCtorEq]
  cases s <;> cases t <;> simp

def tr_iTableValid : Tr :=
  (.evs [.call 0 [(.var 0), (.var 1), (.var 2)] none 1]
  (.ite (.not (.var 48))
  (.ret [(.bool false)])
  (.evs [.call 0 [(.var 3), (.var 4), (.var 5)] none 1]
   (.ite (.not (.var 49))
   (.ret [(.bool false)])
   (.evs [.call 0 [(.var 6), (.var 7), (.var 8)] none 1]
    (.ite (.not (.var 50))
    (.ret [(.bool false)])
    (.evs [.call 0 [(.var 9), (.var 10), (.var 11)] none 1]
     (.ite (.not (.var 51))
     (.ret [(.bool false)])
     (.evs [.call 0 [(.var 12), (.var 13), (.var 14)] none 1]
      (.ite (.not (.var 52))
      (.ret [(.bool false)])
      (.evs [.call 0 [(.var 15), (.var 16), (.var 17)] none 1]
       (.ite (.not (.var 53))
       (.ret [(.bool false)])
       (.evs [.call 0 [(.var 18), (.var 19), (.var 20)] none 1]
        (.ite (.not (.var 54))
        (.ret [(.bool false)])
        (.evs [.call 0 [(.var 21), (.var 22), (.var 23)] none 1]
         (.ite (.not (.var 55))
         (.ret [(.bool false)])
         (.evs [.call 0 [(.var 24), (.var 25), (.var 26)] none 1]
          (.ite (.not (.var 56))
          (.ret [(.bool false)])
          (.evs [.call 0 [(.var 27), (.var 28), (.var 29)] none 1]
           (.ite (.not (.var 57))
           (.ret [(.bool false)])
           (.evs [.call 0 [(.var 30), (.var 31), (.var 32)] none 1]
            (.ite (.not (.var 58))
            (.ret [(.bool false)])
            (.evs [.call 0 [(.var 33), (.var 34), (.var 35)] none 1]
             (.ite (.not (.var 59))
             (.ret [(.bool false)])
             (.evs [.call 0 [(.var 36), (.var 37), (.var 38)] none 1]
              (.ite (.not (.var 60))
              (.ret [(.bool false)])
              (.evs [.call 0 [(.var 39), (.var 40), (.var 41)] none 1]
               (.ite (.not (.var 61))
               (.ret [(.bool false)])
               (.evs [.call 0 [(.var 42), (.var 43), (.var 44)] none 1]
                (.ite (.not (.var 62))
                (.ret [(.bool false)])
                (.evs [.call 0 [(.var 45), (.var 46), (.var 47)] none 1]
                 (.ite (.not (.var 63))
                 (.ret [(.bool false)])
                 (.ret [(.bool true)])))))))))))))))))))))))))))))))))
def Fs_iTableValid : List Fun1 := [G_realOk]
def F_iTableValid : Fun1 := ofTree Fs_iTableValid tr_iTableValid
def G_iTableValid : Fun1 := ⟨fun _ => True, fun ins => [.bool (tabQ fun k => q3 ins (3 * k))]⟩
theorem out_iTableValid : (fun (g : Nat → Int) => F_iTableValid.out (ivs g 0 48)) = fun g => nestC (fun k => .bool (!realQ (q3 (ivs g 0 48) (3 * k)))) 0 16 := by kernel_rfl
theorem as_iTableValid (ins : List Value) (ht : TypedL (intTs 48 ++ []) ins) (_ : G_iTableValid.pre ins) : F_iTableValid.pre ins ∧ F_iTableValid.out ins = G_iTableValid.out ins := by
  obtain ⟨g, r, rfl, h1, _⟩ := ints_lit 48 0 ht
  obtain rfl := ints0 h1
  rw [List.append_nil]
  refine ⟨okT_free (by intro F hF ins; simp only [Fs_iTableValid, List.mem_singleton] at hF; rw [hF]; trivial) _ _ (by kernel_rfl), (congrFun out_iTableValid g).trans ?_⟩
  exact nestC_eq (fun k => rfl) 16 0

def tr_gotTable : Tr :=
  (.ite (.var 48)
  (.ret [(.int .i64 0), (.int .i64 0), (.int .i64 0), (.int .i64 0), (.int .i64 0), (.int .i64 0), (.int .i64 0), (.int .i64 0), (.int .i64 0), (.int .i64 0), (.int .i64 0), (.int .i64 0), (.int .i64 0), (.int .i64 0), (.int .i64 0), (.int .i64 0), (.int .i64 0), (.int .i64 0), (.int .i64 0), (.int .i64 0), (.int .i64 0), (.int .i64 0), (.int .i64 0), (.int .i64 0), (.int .i64 0), (.int .i64 0), (.int .i64 0), (.int .i64 0), (.int .i64 0), (.int .i64 0), (.int .i64 0), (.int .i64 0), (.int .i64 0), (.int .i64 0), (.int .i64 0), (.int .i64 0), (.int .i64 0), (.int .i64 0), (.int .i64 0), (.int .i64 0), (.int .i64 0), (.int .i64 0), (.int .i64 0), (.int .i64 0), (.int .i64 0), (.int .i64 0), (.int .i64 0), (.int .i64 0), (.bool false), (.var 48)])
  (.ret [(.var 0), (.var 1), (.var 2), (.var 3), (.var 4), (.var 5), (.var 6), (.var 7), (.var 8), (.var 9), (.var 10), (.var 11), (.var 12), (.var 13), (.var 14), (.var 15), (.var 16), (.var 17), (.var 18), (.var 19), (.var 20), (.var 21), (.var 22), (.var 23), (.var 24), (.var 25), (.var 26), (.var 27), (.var 28), (.var 29), (.var 30), (.var 31), (.var 32), (.var 33), (.var 34), (.var 35), (.var 36), (.var 37), (.var 38), (.var 39), (.var 40), (.var 41), (.var 42), (.var 43), (.var 44), (.var 45), (.var 46), (.var 47), (.bool true), (.var 48)]))
def Fs_gotTable : List Fun1 := []
def F_gotTable : Fun1 := ofTree Fs_gotTable tr_gotTable
def G_gotTable : Fun1 := ⟨fun _ => True, fun ins => gotV (b0 ins 48) ins 0 48 ++ [.bool (!b0 ins 48), .bool (b0 ins 48)]⟩
theorem out_gotTable : (fun (g : Nat → Int) => F_gotTable.out (ivs g 0 48 ++ [.bool true])) = fun g => G_gotTable.out (ivs g 0 48 ++ [.bool true]) := by kernel_rfl
theorem out_gotTable' : (fun (g : Nat → Int) => F_gotTable.out (ivs g 0 48 ++ [.bool false])) = fun g => G_gotTable.out (ivs g 0 48 ++ [.bool false]) := by kernel_rfl
theorem as_gotTable (ins : List Value) (ht : TypedL (intTs 48 ++ [.bool]) ins) (_ : G_gotTable.pre ins) : F_gotTable.pre ins ∧ F_gotTable.out ins = G_gotTable.out ins := by
  obtain ⟨g, r, rfl, h1, _⟩ := ints_lit 48 0 ht
  obtain ⟨b, r2, rfl, h2⟩ := bool_cons h1
  obtain rfl := ints0 h2
  cases b
  · exact ⟨trivial, congrFun out_gotTable' g⟩
  · exact ⟨trivial, congrFun out_gotTable g⟩

def tr_gotStokes : Tr :=
  (.ite (.var 12)
  (.ret [(.int .i64 0), (.int .i64 0), (.int .i64 0), (.int .i64 0), (.int .i64 0), (.int .i64 0), (.int .i64 0), (.int .i64 0), (.int .i64 0), (.int .i64 0), (.int .i64 0), (.int .i64 0), (.bool false), (.var 12)])
  (.ret [(.var 0), (.var 1), (.var 2), (.var 3), (.var 4), (.var 5), (.var 6), (.var 7), (.var 8), (.var 9), (.var 10), (.var 11), (.bool true), (.var 12)]))
def Fs_gotStokes : List Fun1 := []
def F_gotStokes : Fun1 := ofTree Fs_gotStokes tr_gotStokes
def G_gotStokes : Fun1 := ⟨fun _ => True, fun ins => gotV (b0 ins 12) ins 0 12 ++ [.bool (!b0 ins 12), .bool (b0 ins 12)]⟩
theorem out_gotStokes : (fun (g : Nat → Int) => F_gotStokes.out (ivs g 0 12 ++ [.bool true])) = fun g => G_gotStokes.out (ivs g 0 12 ++ [.bool true]) := by kernel_rfl
theorem out_gotStokes' : (fun (g : Nat → Int) => F_gotStokes.out (ivs g 0 12 ++ [.bool false])) = fun g => G_gotStokes.out (ivs g 0 12 ++ [.bool false]) := by kernel_rfl
theorem as_gotStokes (ins : List Value) (ht : TypedL (intTs 12 ++ [.bool]) ins) (_ : G_gotStokes.pre ins) : F_gotStokes.pre ins ∧ F_gotStokes.out ins = G_gotStokes.out ins := by
  obtain ⟨g, r, rfl, h1, _⟩ := ints_lit 12 0 ht
  obtain ⟨b, r2, rfl, h2⟩ := bool_cons h1
  obtain rfl := ints0 h2
  cases b
  · exact ⟨trivial, congrFun out_gotStokes' g⟩
  · exact ⟨trivial, congrFun out_gotStokes g⟩

def tr_iStokesValid : Tr :=
  (.evs [.call 0 [(.var 0), (.var 1), (.var 2)] none 1]
  (.ite (.not (.var 12))
  (.ret [(.bool false)])
  (.evs [.call 0 [(.var 3), (.var 4), (.var 5)] none 1]
   (.ite (.not (.var 13))
   (.ret [(.bool false)])
   (.evs [.call 0 [(.var 6), (.var 7), (.var 8)] none 1]
    (.ite (.not (.var 14))
    (.ret [(.bool false)])
    (.evs [.call 0 [(.var 9), (.var 10), (.var 11)] none 1]
     (.ite (.not (.var 15))
     (.ret [(.bool false)])
     (.ret [(.bool true)])))))))))
def Fs_iStokesValid : List Fun1 := [G_realOk]
def F_iStokesValid : Fun1 := ofTree Fs_iStokesValid tr_iStokesValid
def G_iStokesValid : Fun1 := ⟨fun _ => True, fun ins => [.bool (stQ fun k => q3 ins (3 * k))]⟩
theorem out_iStokesValid : (fun (g : Nat → Int) => F_iStokesValid.out (ivs g 0 12)) = fun g => nestC (fun k => .bool (!realQ (q3 (ivs g 0 12) (3 * k)))) 0 4 := by kernel_rfl
theorem as_iStokesValid (ins : List Value) (ht : TypedL (intTs 12 ++ []) ins) (_ : G_iStokesValid.pre ins) : F_iStokesValid.pre ins ∧ F_iStokesValid.out ins = G_iStokesValid.out ins := by
  obtain ⟨g, r, rfl, h1, _⟩ := ints_lit 12 0 ht
  obtain rfl := ints0 h1
  rw [List.append_nil]
  refine ⟨okT_free (by intro F hF ins; simp only [Fs_iStokesValid, List.mem_singleton] at hF; rw [hF]; trivial) _ _ (by kernel_rfl), (congrFun out_iStokesValid g).trans ?_⟩
  exact nestC_eq (fun k => rfl) 4 0

def tr_iTableApply : Tr :=
  (.evs [.call 0 [(.var 0), (.var 1), (.var 2), (.var 3), (.var 4), (.var 5), (.var 6), (.var 7), (.var 8), (.var 9), (.var 10), (.var 11), (.var 12), (.var 13), (.var 14), (.var 15), (.var 16), (.var 17), (.var 18), (.var 19), (.var 20), (.var 21), (.var 22), (.var 23), (.var 24), (.var 25), (.var 26), (.var 27), (.var 28), (.var 29), (.var 30), (.var 31), (.var 32), (.var 33), (.var 34), (.var 35), (.var 36), (.var 37), (.var 38), (.var 39), (.var 40), (.var 41), (.var 42), (.var 43), (.var 44), (.var 45), (.var 46), (.var 47)] none 1,
    .call 1 [(.var 48), (.var 49), (.var 50), (.var 51), (.var 52), (.var 53), (.var 54), (.var 55), (.var 56), (.var 57), (.var 58), (.var 59)] (some (.var 60)) 1,
    .call 2 [(.ite (.var 60) (.var 61) (.bool false)), (.bool false)] none 1]
  (.evs [.call 3 [(.var 0), (.var 1), (.var 2), (.var 48), (.var 49), (.var 50), (.var 62)] none 4]
  (.evs [.call 3 [(.var 3), (.var 4), (.var 5), (.var 51), (.var 52), (.var 53), (.var 66)] none 4,
    .call 4 [(.var 63), (.var 64), (.var 65), (.var 67), (.var 68), (.var 69), (.var 70)] none 4]
  (.evs [.call 3 [(.var 6), (.var 7), (.var 8), (.var 54), (.var 55), (.var 56), (.var 74)] none 4,
    .call 4 [(.var 71), (.var 72), (.var 73), (.var 75), (.var 76), (.var 77), (.var 78)] none 4]
  (.evs [.call 3 [(.var 9), (.var 10), (.var 11), (.var 57), (.var 58), (.var 59), (.var 82)] none 4,
    .call 4 [(.var 79), (.var 80), (.var 81), (.var 83), (.var 84), (.var 85), (.var 86)] none 4]
  (.evs [.call 3 [(.var 12), (.var 13), (.var 14), (.var 48), (.var 49), (.var 50), (.var 90)] none 4]
  (.evs [.call 3 [(.var 15), (.var 16), (.var 17), (.var 51), (.var 52), (.var 53), (.var 94)] none 4,
    .call 4 [(.var 91), (.var 92), (.var 93), (.var 95), (.var 96), (.var 97), (.var 98)] none 4]
  (.evs [.call 3 [(.var 18), (.var 19), (.var 20), (.var 54), (.var 55), (.var 56), (.var 102)] none 4,
    .call 4 [(.var 99), (.var 100), (.var 101), (.var 103), (.var 104), (.var 105), (.var 106)] none 4]
  (.evs [.call 3 [(.var 21), (.var 22), (.var 23), (.var 57), (.var 58), (.var 59), (.var 110)] none 4,
    .call 4 [(.var 107), (.var 108), (.var 109), (.var 111), (.var 112), (.var 113), (.var 114)] none 4]
  (.evs [.call 3 [(.var 24), (.var 25), (.var 26), (.var 48), (.var 49), (.var 50), (.var 118)] none 4]
  (.evs [.call 3 [(.var 27), (.var 28), (.var 29), (.var 51), (.var 52), (.var 53), (.var 122)] none 4,
    .call 4 [(.var 119), (.var 120), (.var 121), (.var 123), (.var 124), (.var 125), (.var 126)] none 4]
  (.evs [.call 3 [(.var 30), (.var 31), (.var 32), (.var 54), (.var 55), (.var 56), (.var 130)] none 4,
    .call 4 [(.var 127), (.var 128), (.var 129), (.var 131), (.var 132), (.var 133), (.var 134)] none 4]
  (.evs [.call 3 [(.var 33), (.var 34), (.var 35), (.var 57), (.var 58), (.var 59), (.var 138)] none 4,
    .call 4 [(.var 135), (.var 136), (.var 137), (.var 139), (.var 140), (.var 141), (.var 142)] none 4]
  (.evs [.call 3 [(.var 36), (.var 37), (.var 38), (.var 48), (.var 49), (.var 50), (.var 146)] none 4]
  (.evs [.call 3 [(.var 39), (.var 40), (.var 41), (.var 51), (.var 52), (.var 53), (.var 150)] none 4,
    .call 4 [(.var 147), (.var 148), (.var 149), (.var 151), (.var 152), (.var 153), (.var 154)] none 4]
  (.evs [.call 3 [(.var 42), (.var 43), (.var 44), (.var 54), (.var 55), (.var 56), (.var 158)] none 4,
    .call 4 [(.var 155), (.var 156), (.var 157), (.var 159), (.var 160), (.var 161), (.var 162)] none 4]
  (.evs [.call 3 [(.var 45), (.var 46), (.var 47), (.var 57), (.var 58), (.var 59), (.var 166)] none 4,
    .call 4 [(.var 163), (.var 164), (.var 165), (.var 167), (.var 168), (.var 169), (.var 170)] none 4]
  (.evs [.call 5 [(.var 87), (.var 88), (.var 89), (.var 115), (.var 116), (.var 117), (.var 143), (.var 144), (.var 145), (.var 171), (.var 172), (.var 173), (.var 174)] none 14]
  (.ret [(.var 175), (.var 176), (.var 177), (.var 178), (.var 179), (.var 180), (.var 181), (.var 182), (.var 183), (.var 184), (.var 185), (.var 186), (.var 187)])))))))))))))))))))
def Fs_iTableApply : List Fun1 := [G_iTableValid, G_iStokesValid, G_need, G_times, G_add, G_gotStokes]
def F_iTableApply : Fun1 := ofTree Fs_iTableApply tr_iTableApply
def apQ (ins : List Value) : Bool := tabQ (fun k => q3 ins (3 * k)) && stQ (fun k => q3 ins (48 + 3 * k))
def apD (ins : List Value) (k : Nat) : Option Q := dotQ (rowF (fun k => q3 ins (3 * k)) k) (fun k => q3 ins (48 + 3 * k))
def G_iTableApply : Fun1 := ⟨fun _ => True, fun ins => nttW 4 (apQ ins) (apD ins)⟩
def taI (a b : Nat → Q) : List Q × Bool := cellsI (fun k s => cellI (rowF a k) b s) 0 4 (false || !andG (tabQ a) (stQ b))
theorem taI_fin (a b : Nat → Q) : gotL (taI a b).2 (taI a b).1 ++ [.bool (!(taI a b).2)] = nttV 4 (tabQ a && stQ b) (fun k => dotQ (rowF a k) b) := by
  unfold taI
  rw [andG_eq, Bool.false_or]
  exact nttI_eq (d := fun k => dotQ (rowF a k) b) (fun k s => cellI_spec _ _ s) 4 _
theorem out_iTableApply : (fun (g : Nat → Int) => evalT' Fs_iTableApply tr_iTableApply (ivs g 0 60)) = fun g =>
    gotL (taI (fun k => q3 (ivs g 0 60) (3 * k)) (fun k => q3 (ivs g 0 60) (48 + 3 * k))).2 (taI (fun k => q3 (ivs g 0 60) (3 * k)) (fun k => q3 (ivs g 0 60) (48 + 3 * k))).1 ++
      [.bool (!(taI (fun k => q3 (ivs g 0 60) (3 * k)) (fun k => q3 (ivs g 0 60) (48 + 3 * k))).2)] := by kernel_rfl
theorem as_iTableApply (ins : List Value) (ht : TypedL (intTs 60 ++ []) ins) (_ : G_iTableApply.pre ins) : F_iTableApply.pre ins ∧ F_iTableApply.out ins = G_iTableApply.out ins := by
  obtain ⟨g, r, rfl, h1, _⟩ := ints_lit 60 0 ht
  obtain rfl := ints0 h1
  rw [List.append_nil]
  refine ⟨okT_free (by intro F hF ins; simp only [Fs_iTableApply, List.mem_cons, List.not_mem_nil, or_false] at hF; rcases hF with rfl | rfl | rfl | rfl | rfl | rfl <;> trivial) _ _ (by kernel_rfl), (evalT_sel (lens := [1, 1]) (Lens.cons (fun _ => rfl) (Lens.cons (fun _ => rfl) Lens.nil)) _ _ (by kernel_rfl)).trans ((congrFun out_iTableApply g).trans ?_)⟩
  exact (taI_fin _ _).trans (nttV_eq _ _ _)

def tr_l3Inner : Tr :=
  (.evs [.call 0 [(.var 0), (.var 1), (.var 2), (.var 3), (.var 4), (.var 5)] none 4]
  (.evs [.call 0 [(.var 6), (.var 7), (.var 8), (.var 9), (.var 10), (.var 11)] none 4]
  (.ite (.ite (.not (.var 15)) (.bool true) (.not (.var 19)))
  (.ret [(.int .i64 0), (.int .i64 0), (.int .i64 0), (.bool false)])
  (.evs [.call 1 [(.var 12), (.var 13), (.var 14), (.var 16), (.var 17), (.var 18)] none 4]
   (.ret [(.var 20), (.var 21), (.var 22), (.var 23)])))))
def Fs_l3Inner : List Fun1 := [G_sFracTimes, G_sFracAdd]
def F_l3Inner : Fun1 := ofTree Fs_l3Inner tr_l3Inner
def G_l3Inner : Fun1 := ⟨fun _ => True, fun ins => fr4 (mixQ (q3 ins 0) (q3 ins 3) (q3 ins 6) (q3 ins 9))⟩
theorem as_l3Inner (ins : List Value) (ht : TypedL (intTs 12 ++ []) ins) (_ : G_l3Inner.pre ins) : F_l3Inner.pre ins ∧ F_l3Inner.out ins = G_l3Inner.out ins := by
  obtain ⟨g, r, rfl, h1, _⟩ := ints_lit 12 0 ht
  obtain rfl := ints0 h1
  rw [List.append_nil]
  simp only [ivs, F_l3Inner, G_l3Inner, tr_l3Inner, Fs_l3Inner, G_sFracTimes, G_sFracAdd, mixQ, q3, fr4, ofTree, okT, okE, evalT, evalE, evsIn, ev, callF, preF, hasF, needs, i0, b0, toI_int, toB_bool, List.getD_cons_zero, List.getD_cons_succ, List.cons_append, List.nil_append, List.replicate, if_true, if_false, Bool.false_eq_true, and_true, true_and, implies_true, forall_const, false_implies, cmpI, Bool.not_true, Bool.not_false, Bool.true_and, Bool.false_and, Bool.and_true, Bool.and_false, reduceIte, List.append_nil, reduceCtorEq]
  cases h1 : timesQ (g 0, g (0 + 1), g (0 + 1 + 1)) (g (0 + 1 + 1 + 1), g (0 + 1 + 1 + 1 + 1), g (0 + 1 + 1 + 1 + 1 + 1)) with
  | none => simp [zq]
  | some x =>
    cases h2 : timesQ (g (0 + 1 + 1 + 1 + 1 + 1 + 1), g (0 + 1 + 1 + 1 + 1 + 1 + 1 + 1), g (0 + 1 + 1 + 1 + 1 + 1 + 1 + 1 + 1)) (g (0 + 1 + 1 + 1 + 1 + 1 + 1 + 1 + 1 + 1), g (0 + 1 + 1 + 1 + 1 + 1 + 1 + 1 + 1 + 1 + 1), g (0 + 1 + 1 + 1 + 1 + 1 + 1 + 1 + 1 + 1 + 1 + 1)) with
    | none => simp [zq]
    | some y => simp

def tr_iMatValid : Tr :=
  (.evs [.call 0 [(.var 0), (.var 1), (.var 2)] none 1]
  (.ite (.not (.var 12))
  (.ret [(.bool false)])
  (.evs [.call 0 [(.var 3), (.var 4), (.var 5)] none 1]
   (.ite (.not (.var 13))
   (.ret [(.bool false)])
   (.evs [.call 0 [(.var 6), (.var 7), (.var 8)] none 1]
    (.ite (.not (.var 14))
    (.ret [(.bool false)])
    (.evs [.call 0 [(.var 9), (.var 10), (.var 11)] none 1]
     (.ite (.not (.var 15))
     (.ret [(.bool false)])
     (.ret [(.bool true)])))))))))
def Fs_iMatValid : List Fun1 := [G_iFracValid]
def F_iMatValid : Fun1 := ofTree Fs_iMatValid tr_iMatValid
def G_iMatValid : Fun1 := ⟨fun _ => True, fun ins => [.bool (matQ fun k => q3 ins (3 * k))]⟩
theorem out_iMatValid : (fun (g : Nat → Int) => F_iMatValid.out (ivs g 0 12)) = fun g => nestC (fun k => .bool (!validQ (q3 (ivs g 0 12) (3 * k)))) 0 4 := by kernel_rfl
theorem as_iMatValid (ins : List Value) (ht : TypedL (intTs 12 ++ []) ins) (_ : G_iMatValid.pre ins) : F_iMatValid.pre ins ∧ F_iMatValid.out ins = G_iMatValid.out ins := by
  obtain ⟨g, r, rfl, h1, _⟩ := ints_lit 12 0 ht
  obtain rfl := ints0 h1
  rw [List.append_nil]
  refine ⟨okT_free (by intro F hF ins; simp only [Fs_iMatValid, List.mem_singleton] at hF; rw [hF]; trivial) _ _ (by kernel_rfl), (congrFun out_iMatValid g).trans ?_⟩
  exact nestC_eq (fun k => rfl) 4 0

def tr_sMatValid : Tr :=
  (.evs [.call 0 [(.var 0), (.var 1), (.var 2)] none 1]
  (.ite (.not (.var 12))
  (.ret [(.bool false)])
  (.evs [.call 0 [(.var 3), (.var 4), (.var 5)] none 1]
   (.ite (.not (.var 13))
   (.ret [(.bool false)])
   (.evs [.call 0 [(.var 6), (.var 7), (.var 8)] none 1]
    (.ite (.not (.var 14))
    (.ret [(.bool false)])
    (.evs [.call 0 [(.var 9), (.var 10), (.var 11)] none 1]
     (.ite (.not (.var 15))
     (.ret [(.bool false)])
     (.ret [(.bool true)])))))))))
def Fs_sMatValid : List Fun1 := [G_sFracValid]
def F_sMatValid : Fun1 := ofTree Fs_sMatValid tr_sMatValid
def G_sMatValid : Fun1 := ⟨fun _ => True, fun ins => [.bool (matQ fun k => q3 ins (3 * k))]⟩
theorem out_sMatValid : (fun (g : Nat → Int) => F_sMatValid.out (ivs g 0 12)) = fun g => nestC (fun k => .bool (!validQ (q3 (ivs g 0 12) (3 * k)))) 0 4 := by kernel_rfl
theorem as_sMatValid (ins : List Value) (ht : TypedL (intTs 12 ++ []) ins) (_ : G_sMatValid.pre ins) : F_sMatValid.pre ins ∧ F_sMatValid.out ins = G_sMatValid.out ins := by
  obtain ⟨g, r, rfl, h1, _⟩ := ints_lit 12 0 ht
  obtain rfl := ints0 h1
  rw [List.append_nil]
  refine ⟨okT_free (by intro F hF ins; simp only [Fs_sMatValid, List.mem_singleton] at hF; rw [hF]; trivial) _ _ (by kernel_rfl), (congrFun out_sMatValid g).trans ?_⟩
  exact nestC_eq (fun k => rfl) 4 0

def tr_iFracLess : Tr :=
  (.evs [.call 0 [(.var 0), (.var 1), (.var 2)] none 1,
    .call 0 [(.var 3), (.var 4), (.var 5)] (some (.not (.not (.var 6)))) 1]
  (.ite (.ite (.not (.var 6)) (.bool true) (.not (.var 7)))
  (.ret [(.int .i64 0), (.int .i64 0), (.int .i64 0), (.bool false)])
  (.evs [.call 1 [(.ar .sub .i64 (.ar .mul .i64 (.var 0) (.var 5)) (.ar .mul .i64 (.var 3) (.var 2))), (.ar .sub .i64 (.ar .mul .i64 (.var 1) (.var 5)) (.ar .mul .i64 (.var 4) (.var 2))), (.ar .mul .i64 (.var 2) (.var 5))] none 4]
   (.ret [(.var 8), (.var 9), (.var 10), (.var 11)]))))
def Fs_iFracLess : List Fun1 := [G_iFracValid, G_lowest]
def F_iFracLess : Fun1 := ofTree Fs_iFracLess tr_iFracLess
def G_iFracLess : Fun1 := ⟨fun _ => True, fun ins => fr4 (lessQ (q3 ins 0) (q3 ins 3))⟩
theorem as_iFracLess (ins : List Value) (ht : TypedL [.int .i64, .int .i64, .int .i64, .int .i64, .int .i64, .int .i64] ins) (_ : G_iFracLess.pre ins) : F_iFracLess.pre ins ∧ F_iFracLess.out ins = G_iFracLess.out ins := by
  obtain ⟨a, b, c, x, y, z, rfl, _⟩ := ints6 ht
  simp only [F_iFracLess, G_iFracLess, tr_iFracLess, Fs_iFracLess, G_iFracValid, G_lowest, lessQ, validQ, q3, arI, ofTree, okT, okE, evalT, evalE, evsIn, ev, callF, preF, hasF, needs, i0, b0, toI_int, toB_bool, List.getD_cons_zero, List.getD_cons_succ, List.cons_append, List.nil_append, List.replicate, if_true, if_false, Bool.false_eq_true, and_true, true_and, implies_true, forall_const, false_implies, cmpI, Bool.not_true, Bool.not_false, Bool.true_and, Bool.false_and, Bool.and_true, Bool.and_false, reduceIte, List.append_nil, reduceCtorEq]
  cases h : validI a b c
  · simp [h, fr4, zq]
  · cases k : validI x y z
    · simp [h, k, fr4, zq]
    · obtain ⟨e1, e2, e3, e4, e5, e6, e7, e8, e9, l1, l2⟩ := sum_facts h k
      simp only [h, k, e1, e2, e3, e4, e5, e8, e9, ofTree, okT, okE, evalT, evalE, evsIn, ev, callF, preF, hasF, needs, i0, b0, toI_int, toB_bool, List.getD_cons_zero, List.getD_cons_succ, List.cons_append, List.nil_append, List.replicate, if_true, if_false, Bool.false_eq_true, and_true, true_and, implies_true, forall_const, false_implies, cmpI, Bool.not_true, Bool.not_false, Bool.true_and, Bool.false_and, Bool.and_true, Bool.and_false, reduceIte, List.append_nil, reduceCtorEq]
      simp [fr4, l2]

def tr_iFracMirror : Tr :=
  (.evs [.call 0 [(.var 0), (.var 1), (.var 2)] none 1]
  (.ite (.not (.var 3))
  (.ret [(.int .i64 0), (.int .i64 0), (.int .i64 0), (.bool false)])
  (.ret [(.var 0), (.ar .sub .i64 (.int .i64 0) (.var 1)), (.var 2), (.bool true)])))
def Fs_iFracMirror : List Fun1 := [G_iFracValid]
def F_iFracMirror : Fun1 := ofTree Fs_iFracMirror tr_iFracMirror
def G_iFracMirror : Fun1 := ⟨fun _ => True, fun ins => fr4 (mirQ (q3 ins 0))⟩
theorem as_iFracMirror (ins : List Value) (ht : TypedL [.int .i64, .int .i64, .int .i64] ins) (_ : G_iFracMirror.pre ins) : F_iFracMirror.pre ins ∧ F_iFracMirror.out ins = G_iFracMirror.out ins := by
  obtain ⟨a, b, c, rfl, _⟩ := ints3 ht
  simp only [F_iFracMirror, G_iFracMirror, tr_iFracMirror, Fs_iFracMirror, G_iFracValid, mirQ, validQ, q3, arI, ofTree, okT, okE, evalT, evalE, evsIn, ev, callF, preF, hasF, needs, i0, b0, toI_int, toB_bool, List.getD_cons_zero, List.getD_cons_succ, List.cons_append, List.nil_append, List.replicate, if_true, if_false, Bool.false_eq_true, and_true, true_and, implies_true, forall_const, false_implies, cmpI, Bool.not_true, Bool.not_false, Bool.true_and, Bool.false_and, Bool.and_true, Bool.and_false, reduceIte, List.append_nil, reduceCtorEq]
  cases h : validI a b c
  · simp [fr4, zq]
  · obtain ⟨b1, b2, b3⟩ := valid_bounds h
    have e : IntKind.i64.wrap (-b) = -b := wrap_in (by omega)
    simp [fr4, e]

def tr_sFracMirror : Tr :=
  (.evs [.call 0 [(.var 0), (.var 1), (.var 2)] none 1]
  (.ite (.not (.var 3))
  (.ret [(.int .i64 0), (.int .i64 0), (.int .i64 0), (.bool false)])
  (.ret [(.var 0), (.ar .sub .i64 (.int .i64 0) (.var 1)), (.var 2), (.bool true)])))
def Fs_sFracMirror : List Fun1 := [G_sFracValid]
def F_sFracMirror : Fun1 := ofTree Fs_sFracMirror tr_sFracMirror
def G_sFracMirror : Fun1 := ⟨fun _ => True, fun ins => fr4 (mirQ (q3 ins 0))⟩
theorem as_sFracMirror (ins : List Value) (ht : TypedL [.int .i64, .int .i64, .int .i64] ins) (_ : G_sFracMirror.pre ins) : F_sFracMirror.pre ins ∧ F_sFracMirror.out ins = G_sFracMirror.out ins := by
  obtain ⟨a, b, c, rfl, _⟩ := ints3 ht
  simp only [F_sFracMirror, G_sFracMirror, tr_sFracMirror, Fs_sFracMirror, G_sFracValid, mirQ, validQ, q3, arI, ofTree, okT, okE, evalT, evalE, evsIn, ev, callF, preF, hasF, needs, i0, b0, toI_int, toB_bool, List.getD_cons_zero, List.getD_cons_succ, List.cons_append, List.nil_append, List.replicate, if_true, if_false, Bool.false_eq_true, and_true, true_and, implies_true, forall_const, false_implies, cmpI, Bool.not_true, Bool.not_false, Bool.true_and, Bool.false_and, Bool.and_true, Bool.and_false, reduceIte, List.append_nil, reduceCtorEq]
  cases h : validI a b c
  · simp [fr4, zq]
  · obtain ⟨b1, b2, b3⟩ := valid_bounds h
    have e : IntKind.i64.wrap (-b) = -b := wrap_in (by omega)
    simp [fr4, e]
def A_sFracMirror : AF := aAny 4
theorem aok_sFracMirror {cb : CodeB} : AOK cb G_sFracMirror A_sFracMirror := aAny_ok (fun _ => trivial) (fun ins => by rfl)

def tr_iFracPower : Tr :=
  (.evs [.call 0 [(.var 0), (.var 1), (.var 2)] none 1]
  (.ite (.not (.var 3))
  (.ret [(.int .i64 0), (.int .i64 0), (.int .i64 0), (.bool false)])
  (.evs [.call 1 [(.ar .add .i64 (.ar .mul .i64 (.var 0) (.var 0)) (.ar .mul .i64 (.var 1) (.var 1))), (.int .i64 0), (.ar .mul .i64 (.var 2) (.var 2))] none 4]
   (.ret [(.var 4), (.var 5), (.var 6), (.var 7)]))))
def Fs_iFracPower : List Fun1 := [G_iFracValid, G_lowest]
def F_iFracPower : Fun1 := ofTree Fs_iFracPower tr_iFracPower
def G_iFracPower : Fun1 := ⟨fun _ => True, fun ins => fr4 (powQ (q3 ins 0))⟩
theorem as_iFracPower (ins : List Value) (ht : TypedL [.int .i64, .int .i64, .int .i64] ins) (_ : G_iFracPower.pre ins) : F_iFracPower.pre ins ∧ F_iFracPower.out ins = G_iFracPower.out ins := by
  obtain ⟨a, b, c, rfl, _⟩ := ints3 ht
  simp only [F_iFracPower, G_iFracPower, tr_iFracPower, Fs_iFracPower, G_iFracValid, G_lowest, powQ, validQ, q3, arI, ofTree, okT, okE, evalT, evalE, evsIn, ev, callF, preF, hasF, needs, i0, b0, toI_int, toB_bool, List.getD_cons_zero, List.getD_cons_succ, List.cons_append, List.nil_append, List.replicate, if_true, if_false, Bool.false_eq_true, and_true, true_and, implies_true, forall_const, false_implies, cmpI, Bool.not_true, Bool.not_false, Bool.true_and, Bool.false_and, Bool.and_true, Bool.and_false, reduceIte, List.append_nil, reduceCtorEq]
  cases h : validI a b c
  · simp [fr4, zq]
  · obtain ⟨b1, b2, b3⟩ := valid_bounds h
    have m1 := mulB b1 b1
    have m2 := mulB b2 b2
    have m3 := denB b3 b3
    have p1 := sq_nonneg a
    have p2 := sq_nonneg b
    have e1 : IntKind.i64.wrap (a * a) = a * a := wrap_in (by omega)
    have e2 : IntKind.i64.wrap (b * b) = b * b := wrap_in (by omega)
    have e3 : IntKind.i64.wrap (c * c) = c * c := wrap_in (by omega)
    have e4 : IntKind.i64.wrap (a * a + b * b) = a * a + b * b := wrap_in (by omega)
    have l : lowOk (a * a + b * b) 0 (c * c) := by unfold lowOk; omega
    simp [fr4, e1, e2, e3, e4, l]

def tr_iHalf : Tr :=
  (.evs [.call 0 [(.var 0), (.var 1), (.var 2)] none 1,
    .call 0 [(.int .i64 2), (.int .i64 0), (.int .i64 1)] (some (.not (.not (.var 3)))) 1]
  (.ite (.ite (.ite (.not (.var 3)) (.bool true) (.not (.var 4))) (.bool true) (.ite (.bool false) (.ite (.bool true) (.bool true) (.bool false)) (.bool false)))
  (.ret [(.int .i64 0), (.int .i64 0), (.int .i64 0), (.bool false)])
  (.evs [.call 1 [(.int .i64 2), (.int .i64 0), (.int .i64 4)] none 4]
   (.ite (.not (.var 8))
   (.ret [(.int .i64 0), (.int .i64 0), (.int .i64 0), (.bool false)])
   (.evs [.call 2 [(.var 0), (.var 1), (.var 2), (.var 5), (.var 6), (.var 7)] none 4]
    (.ret [(.var 9), (.var 10), (.var 11), (.var 12)]))))))
def Fs_iHalf : List Fun1 := [G_iFracValid, G_lowest, G_iFracTimes]
def F_iHalf : Fun1 := ofTree Fs_iHalf tr_iHalf
def G_iHalf : Fun1 := ⟨fun _ => True, fun ins => fr4 (halfQ (q3 ins 0))⟩
theorem as_iHalf (ins : List Value) (ht : TypedL [.int .i64, .int .i64, .int .i64] ins) (_ : G_iHalf.pre ins) : F_iHalf.pre ins ∧ F_iHalf.out ins = G_iHalf.out ins := by
  obtain ⟨a, b, c, rfl, _⟩ := ints3 ht
  have h2 : validI 2 0 1 = true := by decide
  have h3 : lowI 2 0 4 = some (1, 0, 2) := by decide
  have l : lowOk 2 0 4 := by unfold lowOk; omega
  simp only [F_iHalf, G_iHalf, tr_iHalf, Fs_iHalf, G_iFracValid, G_lowest, G_iFracTimes, halfQ, validQ, q3, fr4, h2, h3, ofTree, okT, okE, evalT, evalE, evsIn, ev, callF, preF, hasF, needs, i0, b0, toI_int, toB_bool, List.getD_cons_zero, List.getD_cons_succ, List.cons_append, List.nil_append, List.replicate, if_true, if_false, Bool.false_eq_true, and_true, true_and, implies_true, forall_const, false_implies, cmpI, Bool.not_true, Bool.not_false, Bool.true_and, Bool.false_and, Bool.and_true, Bool.and_false, reduceIte, List.append_nil, reduceCtorEq]
  cases h : validI a b c
  · have : timesQ (a, b, c) (1, 0, 2) = none := by simp [timesQ, validQ, h]
    simp [this, zq]
  · simp [l]

def tr_whole2 : Tr :=
  (.ret [])
def Fs_whole2 : List Fun1 := []
def F_whole2 : Fun1 := ofTree Fs_whole2 tr_whole2

def tr_less : Tr :=
  (.evs [.call 0 [(.var 0), (.var 1), (.var 2), (.var 3), (.var 4), (.var 5)] none 4,
    .call 1 [(.var 7), (.var 8), (.var 9), (.var 10), (.var 6)] none 4]
  (.ret [(.var 11), (.var 12), (.var 13), (.var 14)]))
def Fs_less : List Fun1 := [G_iFracLess, F_keep]
def F_less : Fun1 := ofTree Fs_less tr_less
def G_less : Fun1 := ⟨fun _ => True, fun ins => fr3 (lessQ (q3 ins 0) (q3 ins 3)) ++ [.bool (b0 ins 6 || !(lessQ (q3 ins 0) (q3 ins 3)).isSome)]⟩
theorem as_less (ins : List Value) (ht : TypedL [.int .i64, .int .i64, .int .i64, .int .i64, .int .i64, .int .i64, .bool] ins) (_ : G_less.pre ins) : F_less.pre ins ∧ F_less.out ins = G_less.out ins := by
  obtain ⟨a, r1, rfl, _, ht1⟩ := int_cons ht
  obtain ⟨b, r2, rfl, _, ht2⟩ := int_cons ht1
  obtain ⟨c, r3, rfl, _, ht3⟩ := int_cons ht2
  obtain ⟨x, r4, rfl, _, ht4⟩ := int_cons ht3
  obtain ⟨y, r5, rfl, _, ht5⟩ := int_cons ht4
  obtain ⟨z, r6, rfl, _, ht6⟩ := int_cons ht5
  obtain ⟨t, r7, rfl, ht7⟩ := bool_cons ht6
  obtain rfl := ints0 ht7
  simp only [F_less, G_less, tr_less, Fs_less, G_iFracLess, F_keep, tr_keep, Fs_keep, q3, fr4, fr3, ofTree, okT, okE, evalT, evalE, evsIn, ev, callF, preF, hasF, needs, i0, b0, toI_int, toB_bool, List.getD_cons_zero, List.getD_cons_succ, List.cons_append, List.nil_append, List.replicate, if_true, if_false, Bool.false_eq_true, and_true, true_and, implies_true, forall_const, false_implies, cmpI, Bool.not_true, Bool.not_false, Bool.true_and, Bool.false_and, Bool.and_true, Bool.and_false, reduceIte, List.append_nil, reduceCtorEq]
  cases h : lessQ (a, b, c) (x, y, z) <;> simp [zq]

def tr_mirror : Tr :=
  (.evs [.call 0 [(.var 0), (.var 1), (.var 2)] none 4,
    .call 1 [(.var 4), (.var 5), (.var 6), (.var 7), (.var 3)] none 4]
  (.ret [(.var 8), (.var 9), (.var 10), (.var 11)]))
def Fs_mirror : List Fun1 := [G_iFracMirror, F_keep]
def F_mirror : Fun1 := ofTree Fs_mirror tr_mirror
def G_mirror : Fun1 := ⟨fun _ => True, fun ins => fr3 (mirQ (q3 ins 0)) ++ [.bool (b0 ins 3 || !(mirQ (q3 ins 0)).isSome)]⟩
theorem as_mirror (ins : List Value) (ht : TypedL [.int .i64, .int .i64, .int .i64, .bool] ins) (_ : G_mirror.pre ins) : F_mirror.pre ins ∧ F_mirror.out ins = G_mirror.out ins := by
  obtain ⟨a, r1, rfl, _, ht1⟩ := int_cons ht
  obtain ⟨b, r2, rfl, _, ht2⟩ := int_cons ht1
  obtain ⟨c, r3, rfl, _, ht3⟩ := int_cons ht2
  obtain ⟨t, r7, rfl, ht7⟩ := bool_cons ht3
  obtain rfl := ints0 ht7
  simp only [F_mirror, G_mirror, tr_mirror, Fs_mirror, G_iFracMirror, F_keep, tr_keep, Fs_keep, q3, fr4, fr3, ofTree, okT, okE, evalT, evalE, evsIn, ev, callF, preF, hasF, needs, i0, b0, toI_int, toB_bool, List.getD_cons_zero, List.getD_cons_succ, List.cons_append, List.nil_append, List.replicate, if_true, if_false, Bool.false_eq_true, and_true, true_and, implies_true, forall_const, false_implies, cmpI, Bool.not_true, Bool.not_false, Bool.true_and, Bool.false_and, Bool.and_true, Bool.and_false, reduceIte, List.append_nil, reduceCtorEq]
  cases h : mirQ (a, b, c) <;> simp [zq]

def tr_power : Tr :=
  (.evs [.call 0 [(.var 0), (.var 1), (.var 2)] none 4,
    .call 1 [(.var 4), (.var 5), (.var 6), (.var 7), (.var 3)] none 4]
  (.ret [(.var 8), (.var 9), (.var 10), (.var 11)]))
def Fs_power : List Fun1 := [G_iFracPower, F_keep]
def F_power : Fun1 := ofTree Fs_power tr_power
def G_power : Fun1 := ⟨fun _ => True, fun ins => fr3 (powQ (q3 ins 0)) ++ [.bool (b0 ins 3 || !(powQ (q3 ins 0)).isSome)]⟩
theorem as_power (ins : List Value) (ht : TypedL [.int .i64, .int .i64, .int .i64, .bool] ins) (_ : G_power.pre ins) : F_power.pre ins ∧ F_power.out ins = G_power.out ins := by
  obtain ⟨a, r1, rfl, _, ht1⟩ := int_cons ht
  obtain ⟨b, r2, rfl, _, ht2⟩ := int_cons ht1
  obtain ⟨c, r3, rfl, _, ht3⟩ := int_cons ht2
  obtain ⟨t, r7, rfl, ht7⟩ := bool_cons ht3
  obtain rfl := ints0 ht7
  simp only [F_power, G_power, tr_power, Fs_power, G_iFracPower, F_keep, tr_keep, Fs_keep, q3, fr4, fr3, ofTree, okT, okE, evalT, evalE, evsIn, ev, callF, preF, hasF, needs, i0, b0, toI_int, toB_bool, List.getD_cons_zero, List.getD_cons_succ, List.cons_append, List.nil_append, List.replicate, if_true, if_false, Bool.false_eq_true, and_true, true_and, implies_true, forall_const, false_implies, cmpI, Bool.not_true, Bool.not_false, Bool.true_and, Bool.false_and, Bool.and_true, Bool.and_false, reduceIte, List.append_nil, reduceCtorEq]
  cases h : powQ (a, b, c) <;> simp [zq]

def tr_overTwo : Tr :=
  (.evs [.call 0 [(.var 0), (.var 1), (.var 2)] none 4,
    .call 1 [(.var 4), (.var 5), (.var 6), (.var 7), (.var 3)] none 4]
  (.ret [(.var 8), (.var 9), (.var 10), (.var 11)]))
def Fs_overTwo : List Fun1 := [G_iHalf, F_keep]
def F_overTwo : Fun1 := ofTree Fs_overTwo tr_overTwo
def G_overTwo : Fun1 := ⟨fun _ => True, fun ins => fr3 (halfQ (q3 ins 0)) ++ [.bool (b0 ins 3 || !(halfQ (q3 ins 0)).isSome)]⟩
theorem as_overTwo (ins : List Value) (ht : TypedL [.int .i64, .int .i64, .int .i64, .bool] ins) (_ : G_overTwo.pre ins) : F_overTwo.pre ins ∧ F_overTwo.out ins = G_overTwo.out ins := by
  obtain ⟨a, r1, rfl, _, ht1⟩ := int_cons ht
  obtain ⟨b, r2, rfl, _, ht2⟩ := int_cons ht1
  obtain ⟨c, r3, rfl, _, ht3⟩ := int_cons ht2
  obtain ⟨t, r7, rfl, ht7⟩ := bool_cons ht3
  obtain rfl := ints0 ht7
  simp only [F_overTwo, G_overTwo, tr_overTwo, Fs_overTwo, G_iHalf, F_keep, tr_keep, Fs_keep, q3, fr4, fr3, ofTree, okT, okE, evalT, evalE, evsIn, ev, callF, preF, hasF, needs, i0, b0, toI_int, toB_bool, List.getD_cons_zero, List.getD_cons_succ, List.cons_append, List.nil_append, List.replicate, if_true, if_false, Bool.false_eq_true, and_true, true_and, implies_true, forall_const, false_implies, cmpI, Bool.not_true, Bool.not_false, Bool.true_and, Bool.false_and, Bool.and_true, Bool.and_false, reduceIte, List.append_nil, reduceCtorEq]
  cases h : halfQ (a, b, c) <;> simp [zq]

def tr_real : Tr :=
  (.evs [.call 0 [(.var 0), (.var 1), (.var 2)] none 1]
  (.ite (.not (.var 4))
  (.ret [(.int .i64 0), (.int .i64 0), (.int .i64 0), (.bool true)])
  (.evs [.call 1 [(.var 0), (.int .i64 0), (.var 2)] none 4,
     .call 2 [(.var 5), (.var 6), (.var 7), (.var 8), (.var 3)] none 4]
   (.ret [(.var 9), (.var 10), (.var 11), (.var 12)]))))
def Fs_real : List Fun1 := [G_iFracValid, G_lowest, F_keep]
def F_real : Fun1 := ofTree Fs_real tr_real
def G_real : Fun1 := ⟨fun _ => True, fun ins => fr3 (reQ (q3 ins 0)) ++ [.bool (b0 ins 3 || !(reQ (q3 ins 0)).isSome)]⟩
theorem as_real (ins : List Value) (ht : TypedL [.int .i64, .int .i64, .int .i64, .bool] ins) (_ : G_real.pre ins) : F_real.pre ins ∧ F_real.out ins = G_real.out ins := by
  obtain ⟨a, r1, rfl, _, ht1⟩ := int_cons ht
  obtain ⟨b, r2, rfl, _, ht2⟩ := int_cons ht1
  obtain ⟨c, r3, rfl, _, ht3⟩ := int_cons ht2
  obtain ⟨t, r7, rfl, ht7⟩ := bool_cons ht3
  obtain rfl := ints0 ht7
  simp only [F_real, G_real, tr_real, Fs_real, G_iFracValid, G_lowest, F_keep, tr_keep, Fs_keep, reQ, validQ, q3, fr4, fr3, ofTree, okT, okE, evalT, evalE, evsIn, ev, callF, preF, hasF, needs, i0, b0, toI_int, toB_bool, List.getD_cons_zero, List.getD_cons_succ, List.cons_append, List.nil_append, List.replicate, if_true, if_false, Bool.false_eq_true, and_true, true_and, implies_true, forall_const, false_implies, cmpI, Bool.not_true, Bool.not_false, Bool.true_and, Bool.false_and, Bool.and_true, Bool.and_false, reduceIte, List.append_nil, reduceCtorEq]
  cases h : validI a b c
  · simp [zq]
  · obtain ⟨b1, b2, b3⟩ := valid_bounds h
    have l : lowOk a 0 c := by unfold lowOk; omega
    cases k : lowI a 0 c <;> simp [zq, l, k]

def tr_imag : Tr :=
  (.evs [.call 0 [(.var 0), (.var 1), (.var 2)] none 1]
  (.ite (.not (.var 4))
  (.ret [(.int .i64 0), (.int .i64 0), (.int .i64 0), (.bool true)])
  (.evs [.call 1 [(.var 1), (.int .i64 0), (.var 2)] none 4,
     .call 2 [(.var 5), (.var 6), (.var 7), (.var 8), (.var 3)] none 4]
   (.ret [(.var 9), (.var 10), (.var 11), (.var 12)]))))
def Fs_imag : List Fun1 := [G_iFracValid, G_lowest, F_keep]
def F_imag : Fun1 := ofTree Fs_imag tr_imag
def G_imag : Fun1 := ⟨fun _ => True, fun ins => fr3 (imQ (q3 ins 0)) ++ [.bool (b0 ins 3 || !(imQ (q3 ins 0)).isSome)]⟩
theorem as_imag (ins : List Value) (ht : TypedL [.int .i64, .int .i64, .int .i64, .bool] ins) (_ : G_imag.pre ins) : F_imag.pre ins ∧ F_imag.out ins = G_imag.out ins := by
  obtain ⟨a, r1, rfl, _, ht1⟩ := int_cons ht
  obtain ⟨b, r2, rfl, _, ht2⟩ := int_cons ht1
  obtain ⟨c, r3, rfl, _, ht3⟩ := int_cons ht2
  obtain ⟨t, r7, rfl, ht7⟩ := bool_cons ht3
  obtain rfl := ints0 ht7
  simp only [F_imag, G_imag, tr_imag, Fs_imag, G_iFracValid, G_lowest, F_keep, tr_keep, Fs_keep, imQ, validQ, q3, fr4, fr3, ofTree, okT, okE, evalT, evalE, evsIn, ev, callF, preF, hasF, needs, i0, b0, toI_int, toB_bool, List.getD_cons_zero, List.getD_cons_succ, List.cons_append, List.nil_append, List.replicate, if_true, if_false, Bool.false_eq_true, and_true, true_and, implies_true, forall_const, false_implies, cmpI, Bool.not_true, Bool.not_false, Bool.true_and, Bool.false_and, Bool.and_true, Bool.and_false, reduceIte, List.append_nil, reduceCtorEq]
  cases h : validI a b c
  · simp [zq]
  · obtain ⟨b1, b2, b3⟩ := valid_bounds h
    have l : lowOk b 0 c := by unfold lowOk; omega
    cases k : lowI b 0 c <;> simp [zq, l, k]

def tr_iPair : Tr :=
  (.evs [.call 0 [(.var 3), (.var 4), (.var 5), (.var 6)] none 4,
    .call 1 [(.var 0), (.var 1), (.var 2), (.var 7), (.var 8), (.var 9), (.var 10)] none 4]
  (.ret [(.var 11), (.var 12), (.var 13), (.var 14)]))
def Fs_iPair : List Fun1 := [G_mirror, G_times]
def F_iPair : Fun1 := ofTree Fs_iPair tr_iPair
def G_iPair : Fun1 := ⟨fun _ => True, fun ins => fr3 (pairQ (q3 ins 0) (q3 ins 3)) ++ [.bool (b0 ins 6 || !(pairQ (q3 ins 0) (q3 ins 3)).isSome)]⟩
theorem as_iPair (ins : List Value) (ht : TypedL [.int .i64, .int .i64, .int .i64, .int .i64, .int .i64, .int .i64, .bool] ins) (_ : G_iPair.pre ins) : F_iPair.pre ins ∧ F_iPair.out ins = G_iPair.out ins := by
  obtain ⟨a, r1, rfl, _, ht1⟩ := int_cons ht
  obtain ⟨b, r2, rfl, _, ht2⟩ := int_cons ht1
  obtain ⟨c, r3, rfl, _, ht3⟩ := int_cons ht2
  obtain ⟨x, r4, rfl, _, ht4⟩ := int_cons ht3
  obtain ⟨y, r5, rfl, _, ht5⟩ := int_cons ht4
  obtain ⟨z, r6, rfl, _, ht6⟩ := int_cons ht5
  obtain ⟨t, r7, rfl, ht7⟩ := bool_cons ht6
  obtain rfl := ints0 ht7
  simp only [F_iPair, G_iPair, tr_iPair, Fs_iPair, G_mirror, G_times, pairQ, q3, fr3, ofTree, okT, okE, evalT, evalE, evsIn, ev, callF, preF, hasF, needs, i0, b0, toI_int, toB_bool, List.getD_cons_zero, List.getD_cons_succ, List.cons_append, List.nil_append, List.replicate, if_true, if_false, Bool.false_eq_true, and_true, true_and, implies_true, forall_const, false_implies, cmpI, Bool.not_true, Bool.not_false, Bool.true_and, Bool.false_and, Bool.and_true, Bool.and_false, reduceIte, List.append_nil, reduceCtorEq]
  cases h : mirQ (x, y, z)
  · simp [zq, show timesQ (a, b, c) (0, 0, 0) = none from times_zq' _]
  · simp

def tr_iHalfS : Tr :=
  (.evs [.call 0 [] none 0,
    .call 1 [(.var 0), (.var 1), (.var 2), (.var 3)] none 4]
  (.ret [(.var 4), (.var 5), (.var 6), (.var 7)]))
def Fs_iHalfS : List Fun1 := [F_whole2, G_overTwo]
def F_iHalfS : Fun1 := ofTree Fs_iHalfS tr_iHalfS
def G_iHalfS : Fun1 := G_overTwo
theorem as_iHalfS (ins : List Value) (ht : TypedL [.int .i64, .int .i64, .int .i64, .bool] ins) (_ : G_iHalfS.pre ins) : F_iHalfS.pre ins ∧ F_iHalfS.out ins = G_iHalfS.out ins := by
  obtain ⟨a, r1, rfl, _, ht1⟩ := int_cons ht
  obtain ⟨b, r2, rfl, _, ht2⟩ := int_cons ht1
  obtain ⟨c, r3, rfl, _, ht3⟩ := int_cons ht2
  obtain ⟨t, r7, rfl, ht7⟩ := bool_cons ht3
  obtain rfl := ints0 ht7
  exact ⟨⟨⟨trivial, trivial, trivial⟩, trivial⟩, rfl⟩

def tr_l2SumP : Tr :=
  (.evs [.call 0 [(.var 0), (.var 1), (.var 2)] none 1,
    .call 0 [(.var 3), (.var 4), (.var 5)] (some (.not (.not (.var 6)))) 1]
  (.ite (.ite (.not (.var 6)) (.bool true) (.not (.var 7)))
  (.ret [(.int .i64 0), (.int .i64 0), (.int .i64 0), (.bool false)])
  (.evs [.call 1 [(.ar .add .i64 (.ar .mul .i64 (.var 0) (.var 5)) (.ar .mul .i64 (.ar .mul .i64 (.int .i64 1) (.var 3)) (.var 2))), (.ar .add .i64 (.ar .mul .i64 (.var 1) (.var 5)) (.ar .mul .i64 (.ar .mul .i64 (.int .i64 1) (.var 4)) (.var 2))), (.ar .mul .i64 (.var 2) (.var 5))] none 4]
   (.ret [(.var 8), (.var 9), (.var 10), (.var 11)]))))
def Fs_l2SumP : List Fun1 := [G_sFracValid, G_l2Low]
def F_l2SumP : Fun1 := ofTree Fs_l2SumP tr_l2SumP
def G_l2SumP : Fun1 := ⟨fun _ => True, fun ins => fr4 (addQ (q3 ins 0) (q3 ins 3))⟩
theorem as_l2SumP (ins : List Value) (ht : TypedL [.int .i64, .int .i64, .int .i64, .int .i64, .int .i64, .int .i64] ins) (_ : G_l2SumP.pre ins) : F_l2SumP.pre ins ∧ F_l2SumP.out ins = G_l2SumP.out ins := by
  obtain ⟨a, b, c, x, y, z, rfl, _⟩ := ints6 ht
  cases h : validI a b c
  · simp only [F_l2SumP, G_l2SumP, tr_l2SumP, Fs_l2SumP, G_sFracValid, G_l2Low, addQ, validQ, q3, arI, h, ofTree, okT, okE, evalT, evalE, evsIn, ev, callF, preF, hasF, needs, i0, b0, toI_int, toB_bool, List.getD_cons_zero, List.getD_cons_succ, List.cons_append, List.nil_append, List.replicate, if_true, if_false, Bool.false_eq_true, and_true, true_and, implies_true, forall_const, false_implies, cmpI, Bool.not_true, Bool.not_false, Bool.true_and, Bool.false_and, Bool.and_true, Bool.and_false, reduceIte, List.append_nil, reduceCtorEq]
    simp [fr4, zq]
  · cases k : validI x y z
    · simp only [F_l2SumP, G_l2SumP, tr_l2SumP, Fs_l2SumP, G_sFracValid, G_l2Low, addQ, validQ, q3, arI, h, k, ofTree, okT, okE, evalT, evalE, evsIn, ev, callF, preF, hasF, needs, i0, b0, toI_int, toB_bool, List.getD_cons_zero, List.getD_cons_succ, List.cons_append, List.nil_append, List.replicate, if_true, if_false, Bool.false_eq_true, and_true, true_and, implies_true, forall_const, false_implies, cmpI, Bool.not_true, Bool.not_false, Bool.true_and, Bool.false_and, Bool.and_true, Bool.and_false, reduceIte, List.append_nil, reduceCtorEq]
      simp [fr4, zq]
    · obtain ⟨e1, e2, e3, e4, e5, e6, e7, e8, e9, l1, l2⟩ := sum_facts h k
      obtain ⟨k1, k2, _⟩ := valid_bounds k
      have u1 : IntKind.i64.wrap (1 * x) = x := by rw [Int.one_mul]; exact wrap_in (by omega)
      have u2 : IntKind.i64.wrap (1 * y) = y := by rw [Int.one_mul]; exact wrap_in (by omega)
      simp only [F_l2SumP, G_l2SumP, tr_l2SumP, Fs_l2SumP, G_sFracValid, G_l2Low, addQ, validQ, q3, arI, h, k, u1, u2, e1, e2, e3, e4, e5, e6, e7, ofTree, okT, okE, evalT, evalE, evsIn, ev, callF, preF, hasF, needs, i0, b0, toI_int, toB_bool, List.getD_cons_zero, List.getD_cons_succ, List.cons_append, List.nil_append, List.replicate, if_true, if_false, Bool.false_eq_true, and_true, true_and, implies_true, forall_const, false_implies, cmpI, Bool.not_true, Bool.not_false, Bool.true_and, Bool.false_and, Bool.and_true, Bool.and_false, reduceIte, List.append_nil, reduceCtorEq]
      simp [fr4, l1]

def tr_l2SumM : Tr :=
  (.evs [.call 0 [(.var 0), (.var 1), (.var 2)] none 1,
    .call 0 [(.var 3), (.var 4), (.var 5)] (some (.not (.not (.var 6)))) 1]
  (.ite (.ite (.not (.var 6)) (.bool true) (.not (.var 7)))
  (.ret [(.int .i64 0), (.int .i64 0), (.int .i64 0), (.bool false)])
  (.evs [.call 1 [(.ar .add .i64 (.ar .mul .i64 (.var 0) (.var 5)) (.ar .mul .i64 (.ar .mul .i64 (.int .i64 (-1)) (.var 3)) (.var 2))), (.ar .add .i64 (.ar .mul .i64 (.var 1) (.var 5)) (.ar .mul .i64 (.ar .mul .i64 (.int .i64 (-1)) (.var 4)) (.var 2))), (.ar .mul .i64 (.var 2) (.var 5))] none 4]
   (.ret [(.var 8), (.var 9), (.var 10), (.var 11)]))))
def Fs_l2SumM : List Fun1 := [G_sFracValid, G_l2Low]
def F_l2SumM : Fun1 := ofTree Fs_l2SumM tr_l2SumM
def G_l2SumM : Fun1 := ⟨fun _ => True, fun ins => fr4 (lessQ (q3 ins 0) (q3 ins 3))⟩
theorem as_l2SumM (ins : List Value) (ht : TypedL [.int .i64, .int .i64, .int .i64, .int .i64, .int .i64, .int .i64] ins) (_ : G_l2SumM.pre ins) : F_l2SumM.pre ins ∧ F_l2SumM.out ins = G_l2SumM.out ins := by
  obtain ⟨a, b, c, x, y, z, rfl, _⟩ := ints6 ht
  cases h : validI a b c
  · simp only [F_l2SumM, G_l2SumM, tr_l2SumM, Fs_l2SumM, G_sFracValid, G_l2Low, lessQ, validQ, q3, arI, h, ofTree, okT, okE, evalT, evalE, evsIn, ev, callF, preF, hasF, needs, i0, b0, toI_int, toB_bool, List.getD_cons_zero, List.getD_cons_succ, List.cons_append, List.nil_append, List.replicate, if_true, if_false, Bool.false_eq_true, and_true, true_and, implies_true, forall_const, false_implies, cmpI, Bool.not_true, Bool.not_false, Bool.true_and, Bool.false_and, Bool.and_true, Bool.and_false, reduceIte, List.append_nil, reduceCtorEq]
    simp [fr4, zq]
  · cases k : validI x y z
    · simp only [F_l2SumM, G_l2SumM, tr_l2SumM, Fs_l2SumM, G_sFracValid, G_l2Low, lessQ, validQ, q3, arI, h, k, ofTree, okT, okE, evalT, evalE, evsIn, ev, callF, preF, hasF, needs, i0, b0, toI_int, toB_bool, List.getD_cons_zero, List.getD_cons_succ, List.cons_append, List.nil_append, List.replicate, if_true, if_false, Bool.false_eq_true, and_true, true_and, implies_true, forall_const, false_implies, cmpI, Bool.not_true, Bool.not_false, Bool.true_and, Bool.false_and, Bool.and_true, Bool.and_false, reduceIte, List.append_nil, reduceCtorEq]
      simp [fr4, zq]
    · obtain ⟨e1, e2, e3, e4, e5, e6, e7, e8, e9, l1, l2⟩ := sum_facts h k
      obtain ⟨k1, k2, _⟩ := valid_bounds k
      have u1 : IntKind.i64.wrap (-1 * x) = -x := by rw [Int.neg_one_mul]; exact wrap_in (by omega)
      have u2 : IntKind.i64.wrap (-1 * y) = -y := by rw [Int.neg_one_mul]; exact wrap_in (by omega)
      have m2 := mulB k1 (b := c) (by have := valid_bounds h; omega)
      have m4 := mulB k2 (b := c) (by have := valid_bounds h; omega)
      have v1 : IntKind.i64.wrap (-x * c) = -(x * c) := by rw [Int.neg_mul]; exact wrap_in (by omega)
      have v2 : IntKind.i64.wrap (-y * c) = -(y * c) := by rw [Int.neg_mul]; exact wrap_in (by omega)
      have v3 : IntKind.i64.wrap (a * z + -(x * c)) = a * z - x * c := by rw [← Int.sub_eq_add_neg]; exact e8
      have v4 : IntKind.i64.wrap (b * z + -(y * c)) = b * z - y * c := by rw [← Int.sub_eq_add_neg]; exact e9
      simp only [F_l2SumM, G_l2SumM, tr_l2SumM, Fs_l2SumM, G_sFracValid, G_l2Low, lessQ, validQ, q3, arI, h, k, u1, u2, v1, v2, v3, v4, e1, e3, e5, ofTree, okT, okE, evalT, evalE, evsIn, ev, callF, preF, hasF, needs, i0, b0, toI_int, toB_bool, List.getD_cons_zero, List.getD_cons_succ, List.cons_append, List.nil_append, List.replicate, if_true, if_false, Bool.false_eq_true, and_true, true_and, implies_true, forall_const, false_implies, cmpI, Bool.not_true, Bool.not_false, Bool.true_and, Bool.false_and, Bool.and_true, Bool.and_false, reduceIte, List.append_nil, reduceCtorEq]
      simp [fr4, l2]

def tr_l6tAddP : Tr :=
  (.evs [.call 0 [(.var 0), (.var 1), (.var 2), (.var 3), (.var 4), (.var 5)] none 4]
  (.ret [(.var 7), (.var 8), (.var 9), (.ite (.var 6) (.var 10) (.bool false))]))
def Fs_l6tAddP : List Fun1 := [G_l2SumP]
def F_l6tAddP : Fun1 := ofTree Fs_l6tAddP tr_l6tAddP
def G_l6tAddP : Fun1 := ⟨fun _ => True, fun ins => fr3 (addQ (q3 ins 0) (q3 ins 3)) ++ [.bool (b0 ins 6 && (addQ (q3 ins 0) (q3 ins 3)).isSome)]⟩
theorem as_l6tAddP (ins : List Value) (ht : TypedL [.int .i64, .int .i64, .int .i64, .int .i64, .int .i64, .int .i64, .bool] ins) (_ : G_l6tAddP.pre ins) : F_l6tAddP.pre ins ∧ F_l6tAddP.out ins = G_l6tAddP.out ins := by
  obtain ⟨a, r1, rfl, _, ht1⟩ := int_cons ht
  obtain ⟨b, r2, rfl, _, ht2⟩ := int_cons ht1
  obtain ⟨c, r3, rfl, _, ht3⟩ := int_cons ht2
  obtain ⟨x, r4, rfl, _, ht4⟩ := int_cons ht3
  obtain ⟨y, r5, rfl, _, ht5⟩ := int_cons ht4
  obtain ⟨z, r6, rfl, _, ht6⟩ := int_cons ht5
  obtain ⟨t, r7, rfl, ht7⟩ := bool_cons ht6
  obtain rfl := ints0 ht7
  simp only [F_l6tAddP, G_l6tAddP, tr_l6tAddP, Fs_l6tAddP, G_l2SumP, q3, fr4, fr3, ofTree, okT, okE, evalT, evalE, evsIn, ev, callF, preF, hasF, needs, i0, b0, toI_int, toB_bool, List.getD_cons_zero, List.getD_cons_succ, List.cons_append, List.nil_append, List.replicate, if_true, if_false, Bool.false_eq_true, and_true, true_and, implies_true, forall_const, false_implies, cmpI, Bool.not_true, Bool.not_false, Bool.true_and, Bool.false_and, Bool.and_true, Bool.and_false, reduceIte, List.append_nil, reduceCtorEq]
  cases t <;> simp

def tr_l6tAddM : Tr :=
  (.evs [.call 0 [(.var 0), (.var 1), (.var 2), (.var 3), (.var 4), (.var 5)] none 4]
  (.ret [(.var 7), (.var 8), (.var 9), (.ite (.var 6) (.var 10) (.bool false))]))
def Fs_l6tAddM : List Fun1 := [G_l2SumM]
def F_l6tAddM : Fun1 := ofTree Fs_l6tAddM tr_l6tAddM
def G_l6tAddM : Fun1 := ⟨fun _ => True, fun ins => fr3 (lessQ (q3 ins 0) (q3 ins 3)) ++ [.bool (b0 ins 6 && (lessQ (q3 ins 0) (q3 ins 3)).isSome)]⟩
theorem as_l6tAddM (ins : List Value) (ht : TypedL [.int .i64, .int .i64, .int .i64, .int .i64, .int .i64, .int .i64, .bool] ins) (_ : G_l6tAddM.pre ins) : F_l6tAddM.pre ins ∧ F_l6tAddM.out ins = G_l6tAddM.out ins := by
  obtain ⟨a, r1, rfl, _, ht1⟩ := int_cons ht
  obtain ⟨b, r2, rfl, _, ht2⟩ := int_cons ht1
  obtain ⟨c, r3, rfl, _, ht3⟩ := int_cons ht2
  obtain ⟨x, r4, rfl, _, ht4⟩ := int_cons ht3
  obtain ⟨y, r5, rfl, _, ht5⟩ := int_cons ht4
  obtain ⟨z, r6, rfl, _, ht6⟩ := int_cons ht5
  obtain ⟨t, r7, rfl, ht7⟩ := bool_cons ht6
  obtain rfl := ints0 ht7
  simp only [F_l6tAddM, G_l6tAddM, tr_l6tAddM, Fs_l6tAddM, G_l2SumM, q3, fr4, fr3, ofTree, okT, okE, evalT, evalE, evsIn, ev, callF, preF, hasF, needs, i0, b0, toI_int, toB_bool, List.getD_cons_zero, List.getD_cons_succ, List.cons_append, List.nil_append, List.replicate, if_true, if_false, Bool.false_eq_true, and_true, true_and, implies_true, forall_const, false_implies, cmpI, Bool.not_true, Bool.not_false, Bool.true_and, Bool.false_and, Bool.and_true, Bool.and_false, reduceIte, List.append_nil, reduceCtorEq]
  cases t <;> simp

def tr_l6tPair : Tr :=
  (.evs [.call 0 [(.var 3), (.var 4), (.var 5)] none 4]
  (.evs [.call 1 [(.var 0), (.var 1), (.var 2), (.var 7), (.var 8), (.var 9)] none 4]
  (.ret [(.var 11), (.var 12), (.var 13), (.ite (.ite (.var 6) (.var 10) (.bool false)) (.var 14) (.bool false))])))
def Fs_l6tPair : List Fun1 := [G_sFracMirror, G_sFracTimes]
def F_l6tPair : Fun1 := ofTree Fs_l6tPair tr_l6tPair
def G_l6tPair : Fun1 := ⟨fun _ => True, fun ins => fr3 (pairQ (q3 ins 0) (q3 ins 3)) ++ [.bool (b0 ins 6 && (pairQ (q3 ins 0) (q3 ins 3)).isSome)]⟩
theorem as_l6tPair (ins : List Value) (ht : TypedL [.int .i64, .int .i64, .int .i64, .int .i64, .int .i64, .int .i64, .bool] ins) (_ : G_l6tPair.pre ins) : F_l6tPair.pre ins ∧ F_l6tPair.out ins = G_l6tPair.out ins := by
  obtain ⟨a, r1, rfl, _, ht1⟩ := int_cons ht
  obtain ⟨b, r2, rfl, _, ht2⟩ := int_cons ht1
  obtain ⟨c, r3, rfl, _, ht3⟩ := int_cons ht2
  obtain ⟨x, r4, rfl, _, ht4⟩ := int_cons ht3
  obtain ⟨y, r5, rfl, _, ht5⟩ := int_cons ht4
  obtain ⟨z, r6, rfl, _, ht6⟩ := int_cons ht5
  obtain ⟨t, r7, rfl, ht7⟩ := bool_cons ht6
  obtain rfl := ints0 ht7
  simp only [F_l6tPair, G_l6tPair, tr_l6tPair, Fs_l6tPair, G_sFracMirror, G_sFracTimes, pairQ, q3, fr3, fr4, ofTree, okT, okE, evalT, evalE, evsIn, ev, callF, preF, hasF, needs, i0, b0, toI_int, toB_bool, List.getD_cons_zero, List.getD_cons_succ, List.cons_append, List.nil_append, List.replicate, if_true, if_false, Bool.false_eq_true, and_true, true_and, implies_true, forall_const, false_implies, cmpI, Bool.not_true, Bool.not_false, Bool.true_and, Bool.false_and, Bool.and_true, Bool.and_false, reduceIte, List.append_nil, reduceCtorEq]
  cases h : mirQ (x, y, z)
  · cases t <;> simp [zq, show timesQ (a, b, c) (0, 0, 0) = none from times_zq' _]
  · cases t <;> simp

def tr_l6tPart20 : Tr :=
  (.evs [.call 0 [(.var 0), (.int .i64 0), (.ar .mul .i64 (.mx false .i64 (.int .i64 1) (.var 2)) (.int .i64 2))] none 4]
  (.ret [(.var 4), (.var 5), (.var 6), (.ite (.var 3) (.var 7) (.bool false))]))
def Fs_l6tPart20 : List Fun1 := [G_sFracMake]
def F_l6tPart20 : Fun1 := ofTree Fs_l6tPart20 tr_l6tPart20
def G_l6tPart20 : Fun1 := ⟨fun _ => True, fun ins => fr3 (partP (q3 ins 0)) ++ [.bool (b0 ins 3 && (partP (q3 ins 0)).isSome)]⟩
theorem as_l6tPart20 (ins : List Value) (ht : TypedL [.int .i64, .int .i64, .int .i64, .bool] ins) (_ : G_l6tPart20.pre ins) : F_l6tPart20.pre ins ∧ F_l6tPart20.out ins = G_l6tPart20.out ins := by
  obtain ⟨a, r1, rfl, _, ht1⟩ := int_cons ht
  obtain ⟨b, r2, rfl, _, ht2⟩ := int_cons ht1
  obtain ⟨c, r3, rfl, _, ht3⟩ := int_cons ht2
  obtain ⟨t, r7, rfl, ht7⟩ := bool_cons ht3
  obtain rfl := ints0 ht7
  simp only [F_l6tPart20, G_l6tPart20, tr_l6tPart20, Fs_l6tPart20, G_sFracMake, partP, q3, fr4, fr3, arI, ofTree, okT, okE, evalT, evalE, evsIn, ev, callF, preF, hasF, needs, i0, b0, toI_int, toB_bool, List.getD_cons_zero, List.getD_cons_succ, List.cons_append, List.nil_append, List.replicate, if_true, if_false, Bool.false_eq_true, and_true, true_and, implies_true, forall_const, false_implies, cmpI, Bool.not_true, Bool.not_false, Bool.true_and, Bool.false_and, Bool.and_true, Bool.and_false, reduceIte, List.append_nil, reduceCtorEq]
  cases t <;> simp

def tr_l6tPart10 : Tr :=
  (.evs [.call 0 [(.var 0), (.int .i64 0), (.ar .mul .i64 (.mx false .i64 (.int .i64 1) (.var 2)) (.int .i64 1))] none 4]
  (.ret [(.var 4), (.var 5), (.var 6), (.ite (.var 3) (.var 7) (.bool false))]))
def Fs_l6tPart10 : List Fun1 := [G_sFracMake]
def F_l6tPart10 : Fun1 := ofTree Fs_l6tPart10 tr_l6tPart10
def G_l6tPart10 : Fun1 := ⟨fun _ => True, fun ins => fr3 (partR (q3 ins 0)) ++ [.bool (b0 ins 3 && (partR (q3 ins 0)).isSome)]⟩
theorem as_l6tPart10 (ins : List Value) (ht : TypedL [.int .i64, .int .i64, .int .i64, .bool] ins) (_ : G_l6tPart10.pre ins) : F_l6tPart10.pre ins ∧ F_l6tPart10.out ins = G_l6tPart10.out ins := by
  obtain ⟨a, r1, rfl, _, ht1⟩ := int_cons ht
  obtain ⟨b, r2, rfl, _, ht2⟩ := int_cons ht1
  obtain ⟨c, r3, rfl, _, ht3⟩ := int_cons ht2
  obtain ⟨t, r7, rfl, ht7⟩ := bool_cons ht3
  obtain rfl := ints0 ht7
  simp only [F_l6tPart10, G_l6tPart10, tr_l6tPart10, Fs_l6tPart10, G_sFracMake, partR, q3, fr4, fr3, arI, ofTree, okT, okE, evalT, evalE, evsIn, ev, callF, preF, hasF, needs, i0, b0, toI_int, toB_bool, List.getD_cons_zero, List.getD_cons_succ, List.cons_append, List.nil_append, List.replicate, if_true, if_false, Bool.false_eq_true, and_true, true_and, implies_true, forall_const, false_implies, cmpI, Bool.not_true, Bool.not_false, Bool.true_and, Bool.false_and, Bool.and_true, Bool.and_false, reduceIte, List.append_nil, reduceCtorEq]
  cases t <;> simp

def tr_l6tPart11 : Tr :=
  (.evs [.call 0 [(.var 1), (.int .i64 0), (.ar .mul .i64 (.mx false .i64 (.int .i64 1) (.var 2)) (.int .i64 1))] none 4]
  (.ret [(.var 4), (.var 5), (.var 6), (.ite (.var 3) (.var 7) (.bool false))]))
def Fs_l6tPart11 : List Fun1 := [G_sFracMake]
def F_l6tPart11 : Fun1 := ofTree Fs_l6tPart11 tr_l6tPart11
def G_l6tPart11 : Fun1 := ⟨fun _ => True, fun ins => fr3 (partI (q3 ins 0)) ++ [.bool (b0 ins 3 && (partI (q3 ins 0)).isSome)]⟩
theorem as_l6tPart11 (ins : List Value) (ht : TypedL [.int .i64, .int .i64, .int .i64, .bool] ins) (_ : G_l6tPart11.pre ins) : F_l6tPart11.pre ins ∧ F_l6tPart11.out ins = G_l6tPart11.out ins := by
  obtain ⟨a, r1, rfl, _, ht1⟩ := int_cons ht
  obtain ⟨b, r2, rfl, _, ht2⟩ := int_cons ht1
  obtain ⟨c, r3, rfl, _, ht3⟩ := int_cons ht2
  obtain ⟨t, r7, rfl, ht7⟩ := bool_cons ht3
  obtain rfl := ints0 ht7
  simp only [F_l6tPart11, G_l6tPart11, tr_l6tPart11, Fs_l6tPart11, G_sFracMake, partI, q3, fr4, fr3, arI, ofTree, okT, okE, evalT, evalE, evsIn, ev, callF, preF, hasF, needs, i0, b0, toI_int, toB_bool, List.getD_cons_zero, List.getD_cons_succ, List.cons_append, List.nil_append, List.replicate, if_true, if_false, Bool.false_eq_true, and_true, true_and, implies_true, forall_const, false_implies, cmpI, Bool.not_true, Bool.not_false, Bool.true_and, Bool.false_and, Bool.and_true, Bool.and_false, reduceIte, List.append_nil, reduceCtorEq]
  cases t <;> simp

def tr_l6tPowersA : Tr :=
  (.evs [.call 0 [(.var 0), (.var 1), (.var 2), (.var 0), (.var 1), (.var 2), (.var 12)] none 4]
  (.evs [.call 0 [(.var 3), (.var 4), (.var 5), (.var 3), (.var 4), (.var 5), (.var 16)] none 4,
    .call 1 [(.var 13), (.var 14), (.var 15), (.var 17), (.var 18), (.var 19), (.var 20)] none 4]
  (.evs [.call 0 [(.var 6), (.var 7), (.var 8), (.var 6), (.var 7), (.var 8), (.var 24)] none 4,
    .call 1 [(.var 21), (.var 22), (.var 23), (.var 25), (.var 26), (.var 27), (.var 28)] none 4]
  (.evs [.call 0 [(.var 9), (.var 10), (.var 11), (.var 9), (.var 10), (.var 11), (.var 32)] none 4,
    .call 1 [(.var 29), (.var 30), (.var 31), (.var 33), (.var 34), (.var 35), (.var 36)] none 4]
  (.evs [.call 3 [(.var 37), (.var 38), (.var 39), (.var 40)] none 4]
  (.ret [(.var 41), (.var 42), (.var 43), (.var 44)]))))))
def Fs_l6tPowersA : List Fun1 := [G_l6tPair, G_l6tAddP, G_l6tAddM, G_l6tPart20]
def F_l6tPowersA : Fun1 := ofTree Fs_l6tPowersA tr_l6tPowersA

def tr_l6tPowersB : Tr :=
  (.evs [.call 0 [(.var 0), (.var 1), (.var 2), (.var 0), (.var 1), (.var 2), (.var 12)] none 4]
  (.evs [.call 0 [(.var 3), (.var 4), (.var 5), (.var 3), (.var 4), (.var 5), (.var 16)] none 4,
    .call 2 [(.var 13), (.var 14), (.var 15), (.var 17), (.var 18), (.var 19), (.var 20)] none 4]
  (.evs [.call 0 [(.var 6), (.var 7), (.var 8), (.var 6), (.var 7), (.var 8), (.var 24)] none 4,
    .call 1 [(.var 21), (.var 22), (.var 23), (.var 25), (.var 26), (.var 27), (.var 28)] none 4]
  (.evs [.call 0 [(.var 9), (.var 10), (.var 11), (.var 9), (.var 10), (.var 11), (.var 32)] none 4,
    .call 2 [(.var 29), (.var 30), (.var 31), (.var 33), (.var 34), (.var 35), (.var 36)] none 4]
  (.evs [.call 3 [(.var 37), (.var 38), (.var 39), (.var 40)] none 4]
  (.ret [(.var 41), (.var 42), (.var 43), (.var 44)]))))))
def Fs_l6tPowersB : List Fun1 := [G_l6tPair, G_l6tAddP, G_l6tAddM, G_l6tPart20]
def F_l6tPowersB : Fun1 := ofTree Fs_l6tPowersB tr_l6tPowersB

def tr_l6tPowersC : Tr :=
  (.evs [.call 0 [(.var 0), (.var 1), (.var 2), (.var 0), (.var 1), (.var 2), (.var 12)] none 4]
  (.evs [.call 0 [(.var 3), (.var 4), (.var 5), (.var 3), (.var 4), (.var 5), (.var 16)] none 4,
    .call 1 [(.var 13), (.var 14), (.var 15), (.var 17), (.var 18), (.var 19), (.var 20)] none 4]
  (.evs [.call 0 [(.var 6), (.var 7), (.var 8), (.var 6), (.var 7), (.var 8), (.var 24)] none 4,
    .call 2 [(.var 21), (.var 22), (.var 23), (.var 25), (.var 26), (.var 27), (.var 28)] none 4]
  (.evs [.call 0 [(.var 9), (.var 10), (.var 11), (.var 9), (.var 10), (.var 11), (.var 32)] none 4,
    .call 2 [(.var 29), (.var 30), (.var 31), (.var 33), (.var 34), (.var 35), (.var 36)] none 4]
  (.evs [.call 3 [(.var 37), (.var 38), (.var 39), (.var 40)] none 4]
  (.ret [(.var 41), (.var 42), (.var 43), (.var 44)]))))))
def Fs_l6tPowersC : List Fun1 := [G_l6tPair, G_l6tAddP, G_l6tAddM, G_l6tPart20]
def F_l6tPowersC : Fun1 := ofTree Fs_l6tPowersC tr_l6tPowersC

def tr_l6tPowersD : Tr :=
  (.evs [.call 0 [(.var 0), (.var 1), (.var 2), (.var 0), (.var 1), (.var 2), (.var 12)] none 4]
  (.evs [.call 0 [(.var 3), (.var 4), (.var 5), (.var 3), (.var 4), (.var 5), (.var 16)] none 4,
    .call 2 [(.var 13), (.var 14), (.var 15), (.var 17), (.var 18), (.var 19), (.var 20)] none 4]
  (.evs [.call 0 [(.var 6), (.var 7), (.var 8), (.var 6), (.var 7), (.var 8), (.var 24)] none 4,
    .call 2 [(.var 21), (.var 22), (.var 23), (.var 25), (.var 26), (.var 27), (.var 28)] none 4]
  (.evs [.call 0 [(.var 9), (.var 10), (.var 11), (.var 9), (.var 10), (.var 11), (.var 32)] none 4,
    .call 1 [(.var 29), (.var 30), (.var 31), (.var 33), (.var 34), (.var 35), (.var 36)] none 4]
  (.evs [.call 3 [(.var 37), (.var 38), (.var 39), (.var 40)] none 4]
  (.ret [(.var 41), (.var 42), (.var 43), (.var 44)]))))))
def Fs_l6tPowersD : List Fun1 := [G_l6tPair, G_l6tAddP, G_l6tAddM, G_l6tPart20]
def F_l6tPowersD : Fun1 := ofTree Fs_l6tPowersD tr_l6tPowersD

def tr_l6tTwo2 : Tr :=
  (.evs [.call 0 [(.var 0), (.var 1), (.var 2), (.var 3), (.var 4), (.var 5), (.var 12)] none 4]
  (.evs [.call 0 [(.var 6), (.var 7), (.var 8), (.var 9), (.var 10), (.var 11), (.var 16)] none 4]
  (.evs [.call 1 [(.var 13), (.var 14), (.var 15), (.var 17), (.var 18), (.var 19), (.var 20)] none 4,
    .call 2 [(.var 21), (.var 22), (.var 23), (.var 24)] none 4]
  (.ret [(.var 25), (.var 26), (.var 27), (.var 28)]))))
def Fs_l6tTwo2 : List Fun1 := [G_l6tPair, G_l6tAddP, G_l6tPart10]
def F_l6tTwo2 : Fun1 := ofTree Fs_l6tTwo2 tr_l6tTwo2

def tr_l6tTwo3 : Tr :=
  (.evs [.call 0 [(.var 3), (.var 4), (.var 5), (.var 0), (.var 1), (.var 2), (.var 12)] none 4]
  (.evs [.call 0 [(.var 9), (.var 10), (.var 11), (.var 6), (.var 7), (.var 8), (.var 16)] none 4]
  (.evs [.call 1 [(.var 13), (.var 14), (.var 15), (.var 17), (.var 18), (.var 19), (.var 20)] none 4,
    .call 2 [(.var 21), (.var 22), (.var 23), (.var 24)] none 4]
  (.ret [(.var 25), (.var 26), (.var 27), (.var 28)]))))
def Fs_l6tTwo3 : List Fun1 := [G_l6tPair, G_l6tAddP, G_l6tPart11]
def F_l6tTwo3 : Fun1 := ofTree Fs_l6tTwo3 tr_l6tTwo3

def tr_l6tTwo6 : Tr :=
  (.evs [.call 0 [(.var 0), (.var 1), (.var 2), (.var 3), (.var 4), (.var 5), (.var 12)] none 4]
  (.evs [.call 0 [(.var 6), (.var 7), (.var 8), (.var 9), (.var 10), (.var 11), (.var 16)] none 4]
  (.evs [.call 1 [(.var 13), (.var 14), (.var 15), (.var 17), (.var 18), (.var 19), (.var 20)] none 4,
    .call 2 [(.var 21), (.var 22), (.var 23), (.var 24)] none 4]
  (.ret [(.var 25), (.var 26), (.var 27), (.var 28)]))))
def Fs_l6tTwo6 : List Fun1 := [G_l6tPair, G_l6tAddM, G_l6tPart10]
def F_l6tTwo6 : Fun1 := ofTree Fs_l6tTwo6 tr_l6tTwo6

def tr_l6tTwo7 : Tr :=
  (.evs [.call 0 [(.var 3), (.var 4), (.var 5), (.var 0), (.var 1), (.var 2), (.var 12)] none 4]
  (.evs [.call 0 [(.var 9), (.var 10), (.var 11), (.var 6), (.var 7), (.var 8), (.var 16)] none 4]
  (.evs [.call 1 [(.var 13), (.var 14), (.var 15), (.var 17), (.var 18), (.var 19), (.var 20)] none 4,
    .call 2 [(.var 21), (.var 22), (.var 23), (.var 24)] none 4]
  (.ret [(.var 25), (.var 26), (.var 27), (.var 28)]))))
def Fs_l6tTwo7 : List Fun1 := [G_l6tPair, G_l6tAddM, G_l6tPart11]
def F_l6tTwo7 : Fun1 := ofTree Fs_l6tTwo7 tr_l6tTwo7

def tr_l6tTwo8 : Tr :=
  (.evs [.call 0 [(.var 0), (.var 1), (.var 2), (.var 6), (.var 7), (.var 8), (.var 12)] none 4]
  (.evs [.call 0 [(.var 3), (.var 4), (.var 5), (.var 9), (.var 10), (.var 11), (.var 16)] none 4]
  (.evs [.call 1 [(.var 13), (.var 14), (.var 15), (.var 17), (.var 18), (.var 19), (.var 20)] none 4,
    .call 2 [(.var 21), (.var 22), (.var 23), (.var 24)] none 4]
  (.ret [(.var 25), (.var 26), (.var 27), (.var 28)]))))
def Fs_l6tTwo8 : List Fun1 := [G_l6tPair, G_l6tAddP, G_l6tPart10]
def F_l6tTwo8 : Fun1 := ofTree Fs_l6tTwo8 tr_l6tTwo8

def tr_l6tTwo9 : Tr :=
  (.evs [.call 0 [(.var 0), (.var 1), (.var 2), (.var 6), (.var 7), (.var 8), (.var 12)] none 4]
  (.evs [.call 0 [(.var 3), (.var 4), (.var 5), (.var 9), (.var 10), (.var 11), (.var 16)] none 4]
  (.evs [.call 1 [(.var 13), (.var 14), (.var 15), (.var 17), (.var 18), (.var 19), (.var 20)] none 4,
    .call 2 [(.var 21), (.var 22), (.var 23), (.var 24)] none 4]
  (.ret [(.var 25), (.var 26), (.var 27), (.var 28)]))))
def Fs_l6tTwo9 : List Fun1 := [G_l6tPair, G_l6tAddM, G_l6tPart10]
def F_l6tTwo9 : Fun1 := ofTree Fs_l6tTwo9 tr_l6tTwo9

def tr_l6tTwo10 : Tr :=
  (.evs [.call 0 [(.var 0), (.var 1), (.var 2), (.var 9), (.var 10), (.var 11), (.var 12)] none 4]
  (.evs [.call 0 [(.var 3), (.var 4), (.var 5), (.var 6), (.var 7), (.var 8), (.var 16)] none 4]
  (.evs [.call 1 [(.var 13), (.var 14), (.var 15), (.var 17), (.var 18), (.var 19), (.var 20)] none 4,
    .call 2 [(.var 21), (.var 22), (.var 23), (.var 24)] none 4]
  (.ret [(.var 25), (.var 26), (.var 27), (.var 28)]))))
def Fs_l6tTwo10 : List Fun1 := [G_l6tPair, G_l6tAddP, G_l6tPart10]
def F_l6tTwo10 : Fun1 := ofTree Fs_l6tTwo10 tr_l6tTwo10

def tr_l6tTwo11 : Tr :=
  (.evs [.call 0 [(.var 3), (.var 4), (.var 5), (.var 6), (.var 7), (.var 8), (.var 12)] none 4]
  (.evs [.call 0 [(.var 0), (.var 1), (.var 2), (.var 9), (.var 10), (.var 11), (.var 16)] none 4]
  (.evs [.call 1 [(.var 13), (.var 14), (.var 15), (.var 17), (.var 18), (.var 19), (.var 20)] none 4,
    .call 2 [(.var 21), (.var 22), (.var 23), (.var 24)] none 4]
  (.ret [(.var 25), (.var 26), (.var 27), (.var 28)]))))
def Fs_l6tTwo11 : List Fun1 := [G_l6tPair, G_l6tAddM, G_l6tPart11]
def F_l6tTwo11 : Fun1 := ofTree Fs_l6tTwo11 tr_l6tTwo11

def tr_l6tTwo12 : Tr :=
  (.evs [.call 0 [(.var 0), (.var 1), (.var 2), (.var 6), (.var 7), (.var 8), (.var 12)] none 4]
  (.evs [.call 0 [(.var 3), (.var 4), (.var 5), (.var 9), (.var 10), (.var 11), (.var 16)] none 4]
  (.evs [.call 1 [(.var 13), (.var 14), (.var 15), (.var 17), (.var 18), (.var 19), (.var 20)] none 4,
    .call 2 [(.var 21), (.var 22), (.var 23), (.var 24)] none 4]
  (.ret [(.var 25), (.var 26), (.var 27), (.var 28)]))))
def Fs_l6tTwo12 : List Fun1 := [G_l6tPair, G_l6tAddP, G_l6tPart11]
def F_l6tTwo12 : Fun1 := ofTree Fs_l6tTwo12 tr_l6tTwo12

def tr_l6tTwo13 : Tr :=
  (.evs [.call 0 [(.var 0), (.var 1), (.var 2), (.var 6), (.var 7), (.var 8), (.var 12)] none 4]
  (.evs [.call 0 [(.var 3), (.var 4), (.var 5), (.var 9), (.var 10), (.var 11), (.var 16)] none 4]
  (.evs [.call 1 [(.var 13), (.var 14), (.var 15), (.var 17), (.var 18), (.var 19), (.var 20)] none 4,
    .call 2 [(.var 21), (.var 22), (.var 23), (.var 24)] none 4]
  (.ret [(.var 25), (.var 26), (.var 27), (.var 28)]))))
def Fs_l6tTwo13 : List Fun1 := [G_l6tPair, G_l6tAddM, G_l6tPart11]
def F_l6tTwo13 : Fun1 := ofTree Fs_l6tTwo13 tr_l6tTwo13

def tr_l6tTwo14 : Tr :=
  (.evs [.call 0 [(.var 0), (.var 1), (.var 2), (.var 9), (.var 10), (.var 11), (.var 12)] none 4]
  (.evs [.call 0 [(.var 3), (.var 4), (.var 5), (.var 6), (.var 7), (.var 8), (.var 16)] none 4]
  (.evs [.call 1 [(.var 13), (.var 14), (.var 15), (.var 17), (.var 18), (.var 19), (.var 20)] none 4,
    .call 2 [(.var 21), (.var 22), (.var 23), (.var 24)] none 4]
  (.ret [(.var 25), (.var 26), (.var 27), (.var 28)]))))
def Fs_l6tTwo14 : List Fun1 := [G_l6tPair, G_l6tAddP, G_l6tPart11]
def F_l6tTwo14 : Fun1 := ofTree Fs_l6tTwo14 tr_l6tTwo14

def tr_l6tTwo15 : Tr :=
  (.evs [.call 0 [(.var 0), (.var 1), (.var 2), (.var 9), (.var 10), (.var 11), (.var 12)] none 4]
  (.evs [.call 0 [(.var 3), (.var 4), (.var 5), (.var 6), (.var 7), (.var 8), (.var 16)] none 4]
  (.evs [.call 1 [(.var 13), (.var 14), (.var 15), (.var 17), (.var 18), (.var 19), (.var 20)] none 4,
    .call 2 [(.var 21), (.var 22), (.var 23), (.var 24)] none 4]
  (.ret [(.var 25), (.var 26), (.var 27), (.var 28)]))))
def Fs_l6tTwo15 : List Fun1 := [G_l6tPair, G_l6tAddM, G_l6tPart10]
def F_l6tTwo15 : Fun1 := ofTree Fs_l6tTwo15 tr_l6tTwo15

def tr_iTableOf : Tr :=
  (.evs [.call 0 [(.var 0), (.var 1), (.var 2), (.var 3), (.var 4), (.var 5), (.var 6), (.var 7), (.var 8), (.var 9), (.var 10), (.var 11)] none 1,
    .call 1 [(.var 12), (.bool false)] none 1]
  (.evs [.call 2 [(.var 0), (.var 1), (.var 2), (.var 13)] none 4,
    .call 2 [(.var 3), (.var 4), (.var 5), (.var 17)] none 4,
    .call 2 [(.var 6), (.var 7), (.var 8), (.var 21)] none 4,
    .call 2 [(.var 9), (.var 10), (.var 11), (.var 25)] none 4]
  (.evs [.call 5 [(.var 14), (.var 15), (.var 16), (.var 18), (.var 19), (.var 20), (.var 29)] none 4,
    .call 5 [(.var 30), (.var 31), (.var 32), (.var 22), (.var 23), (.var 24), (.var 33)] none 4,
    .call 5 [(.var 34), (.var 35), (.var 36), (.var 26), (.var 27), (.var 28), (.var 37)] none 4,
    .call 4 [(.var 38), (.var 39), (.var 40), (.var 41)] none 4,
    .call 6 [(.var 14), (.var 15), (.var 16), (.var 18), (.var 19), (.var 20), (.var 45)] none 4,
    .call 5 [(.var 46), (.var 47), (.var 48), (.var 22), (.var 23), (.var 24), (.var 49)] none 4,
    .call 6 [(.var 50), (.var 51), (.var 52), (.var 26), (.var 27), (.var 28), (.var 53)] none 4,
    .call 4 [(.var 54), (.var 55), (.var 56), (.var 57)] none 4,
    .call 3 [(.var 0), (.var 1), (.var 2), (.var 3), (.var 4), (.var 5), (.var 61)] none 4,
    .call 3 [(.var 6), (.var 7), (.var 8), (.var 9), (.var 10), (.var 11), (.var 65)] none 4,
    .call 5 [(.var 62), (.var 63), (.var 64), (.var 66), (.var 67), (.var 68), (.var 69)] none 4,
    .call 7 [(.var 70), (.var 71), (.var 72), (.var 73)] none 4,
    .call 3 [(.var 3), (.var 4), (.var 5), (.var 0), (.var 1), (.var 2), (.var 77)] none 4,
    .call 3 [(.var 9), (.var 10), (.var 11), (.var 6), (.var 7), (.var 8), (.var 81)] none 4,
    .call 5 [(.var 78), (.var 79), (.var 80), (.var 82), (.var 83), (.var 84), (.var 85)] none 4,
    .call 8 [(.var 86), (.var 87), (.var 88), (.var 89)] none 4,
    .call 5 [(.var 14), (.var 15), (.var 16), (.var 18), (.var 19), (.var 20), (.var 93)] none 4,
    .call 6 [(.var 94), (.var 95), (.var 96), (.var 22), (.var 23), (.var 24), (.var 97)] none 4,
    .call 6 [(.var 98), (.var 99), (.var 100), (.var 26), (.var 27), (.var 28), (.var 101)] none 4,
    .call 4 [(.var 102), (.var 103), (.var 104), (.var 105)] none 4,
    .call 6 [(.var 14), (.var 15), (.var 16), (.var 18), (.var 19), (.var 20), (.var 109)] none 4,
    .call 6 [(.var 110), (.var 111), (.var 112), (.var 22), (.var 23), (.var 24), (.var 113)] none 4,
    .call 5 [(.var 114), (.var 115), (.var 116), (.var 26), (.var 27), (.var 28), (.var 117)] none 4,
    .call 4 [(.var 118), (.var 119), (.var 120), (.var 121)] none 4,
    .call 3 [(.var 0), (.var 1), (.var 2), (.var 3), (.var 4), (.var 5), (.var 125)] none 4,
    .call 3 [(.var 6), (.var 7), (.var 8), (.var 9), (.var 10), (.var 11), (.var 129)] none 4,
    .call 6 [(.var 126), (.var 127), (.var 128), (.var 130), (.var 131), (.var 132), (.var 133)] none 4,
    .call 7 [(.var 134), (.var 135), (.var 136), (.var 137)] none 4,
    .call 3 [(.var 3), (.var 4), (.var 5), (.var 0), (.var 1), (.var 2), (.var 141)] none 4,
    .call 3 [(.var 9), (.var 10), (.var 11), (.var 6), (.var 7), (.var 8), (.var 145)] none 4,
    .call 6 [(.var 142), (.var 143), (.var 144), (.var 146), (.var 147), (.var 148), (.var 149)] none 4,
    .call 8 [(.var 150), (.var 151), (.var 152), (.var 153)] none 4,
    .call 3 [(.var 0), (.var 1), (.var 2), (.var 6), (.var 7), (.var 8), (.var 157)] none 4,
    .call 3 [(.var 3), (.var 4), (.var 5), (.var 9), (.var 10), (.var 11), (.var 161)] none 4,
    .call 5 [(.var 158), (.var 159), (.var 160), (.var 162), (.var 163), (.var 164), (.var 165)] none 4,
    .call 7 [(.var 166), (.var 167), (.var 168), (.var 169)] none 4,
    .call 3 [(.var 0), (.var 1), (.var 2), (.var 6), (.var 7), (.var 8), (.var 173)] none 4,
    .call 3 [(.var 3), (.var 4), (.var 5), (.var 9), (.var 10), (.var 11), (.var 177)] none 4,
    .call 6 [(.var 174), (.var 175), (.var 176), (.var 178), (.var 179), (.var 180), (.var 181)] none 4,
    .call 7 [(.var 182), (.var 183), (.var 184), (.var 185)] none 4,
    .call 3 [(.var 0), (.var 1), (.var 2), (.var 9), (.var 10), (.var 11), (.var 189)] none 4,
    .call 3 [(.var 3), (.var 4), (.var 5), (.var 6), (.var 7), (.var 8), (.var 193)] none 4,
    .call 5 [(.var 190), (.var 191), (.var 192), (.var 194), (.var 195), (.var 196), (.var 197)] none 4,
    .call 7 [(.var 198), (.var 199), (.var 200), (.var 201)] none 4,
    .call 3 [(.var 3), (.var 4), (.var 5), (.var 6), (.var 7), (.var 8), (.var 205)] none 4,
    .call 3 [(.var 0), (.var 1), (.var 2), (.var 9), (.var 10), (.var 11), (.var 209)] none 4,
    .call 6 [(.var 206), (.var 207), (.var 208), (.var 210), (.var 211), (.var 212), (.var 213)] none 4,
    .call 8 [(.var 214), (.var 215), (.var 216), (.var 217)] none 4,
    .call 3 [(.var 0), (.var 1), (.var 2), (.var 6), (.var 7), (.var 8), (.var 221)] none 4,
    .call 3 [(.var 3), (.var 4), (.var 5), (.var 9), (.var 10), (.var 11), (.var 225)] none 4,
    .call 5 [(.var 222), (.var 223), (.var 224), (.var 226), (.var 227), (.var 228), (.var 229)] none 4,
    .call 8 [(.var 230), (.var 231), (.var 232), (.var 233)] none 4,
    .call 3 [(.var 0), (.var 1), (.var 2), (.var 6), (.var 7), (.var 8), (.var 237)] none 4,
    .call 3 [(.var 3), (.var 4), (.var 5), (.var 9), (.var 10), (.var 11), (.var 241)] none 4,
    .call 6 [(.var 238), (.var 239), (.var 240), (.var 242), (.var 243), (.var 244), (.var 245)] none 4,
    .call 8 [(.var 246), (.var 247), (.var 248), (.var 249)] none 4,
    .call 3 [(.var 0), (.var 1), (.var 2), (.var 9), (.var 10), (.var 11), (.var 253)] none 4,
    .call 3 [(.var 3), (.var 4), (.var 5), (.var 6), (.var 7), (.var 8), (.var 257)] none 4,
    .call 5 [(.var 254), (.var 255), (.var 256), (.var 258), (.var 259), (.var 260), (.var 261)] none 4,
    .call 8 [(.var 262), (.var 263), (.var 264), (.var 265)] none 4,
    .call 3 [(.var 0), (.var 1), (.var 2), (.var 9), (.var 10), (.var 11), (.var 269)] none 4,
    .call 3 [(.var 3), (.var 4), (.var 5), (.var 6), (.var 7), (.var 8), (.var 273)] none 4,
    .call 6 [(.var 270), (.var 271), (.var 272), (.var 274), (.var 275), (.var 276), (.var 277)] none 4,
    .call 7 [(.var 278), (.var 279), (.var 280), (.var 281)] none 4]
  (.evs [.call 9 [(.var 42), (.var 43), (.var 44), (.var 58), (.var 59), (.var 60), (.var 74), (.var 75), (.var 76), (.var 90), (.var 91), (.var 92), (.var 106), (.var 107), (.var 108), (.var 122), (.var 123), (.var 124), (.var 138), (.var 139), (.var 140), (.var 154), (.var 155), (.var 156), (.var 170), (.var 171), (.var 172), (.var 186), (.var 187), (.var 188), (.var 202), (.var 203), (.var 204), (.var 218), (.var 219), (.var 220), (.var 234), (.var 235), (.var 236), (.var 250), (.var 251), (.var 252), (.var 266), (.var 267), (.var 268), (.var 282), (.var 283), (.var 284), (.var 285)] none 50]
  (.ret [(.var 286), (.var 287), (.var 288), (.var 289), (.var 290), (.var 291), (.var 292), (.var 293), (.var 294), (.var 295), (.var 296), (.var 297), (.var 298), (.var 299), (.var 300), (.var 301), (.var 302), (.var 303), (.var 304), (.var 305), (.var 306), (.var 307), (.var 308), (.var 309), (.var 310), (.var 311), (.var 312), (.var 313), (.var 314), (.var 315), (.var 316), (.var 317), (.var 318), (.var 319), (.var 320), (.var 321), (.var 322), (.var 323), (.var 324), (.var 325), (.var 326), (.var 327), (.var 328), (.var 329), (.var 330), (.var 331), (.var 332), (.var 333), (.var 334)])))))
def Fs_iTableOf : List Fun1 := [G_iMatValid, G_need, G_power, G_iPair, G_iHalfS, G_add, G_less, G_real, G_imag, G_gotTable]
def F_iTableOf : Fun1 := ofTree Fs_iTableOf tr_iTableOf
def G_iTableOf : Fun1 := ⟨fun _ => True, fun ins => nttW 16 (matQ fun k => q3 ins (3 * k)) (toD fun k => q3 ins (3 * k))⟩
theorem out_iTableOf : (fun (g : Nat → Int) => F_iTableOf.out (ivs g 0 12)) = fun g =>
    gotL (tofI fun k => q3 (ivs g 0 12) (3 * k)).2 (tofI fun k => q3 (ivs g 0 12) (3 * k)).1 ++ [.bool (!(tofI fun k => q3 (ivs g 0 12) (3 * k)).2)] := by kernel_rfl
theorem as_iTableOf (ins : List Value) (ht : TypedL (intTs 12 ++ []) ins) (_ : G_iTableOf.pre ins) : F_iTableOf.pre ins ∧ F_iTableOf.out ins = G_iTableOf.out ins := by
  obtain ⟨g, r, rfl, h1, _⟩ := ints_lit 12 0 ht
  obtain rfl := ints0 h1
  rw [List.append_nil]
  refine ⟨okT_free (by intro F hF ins; simp only [Fs_iTableOf, List.mem_cons, List.not_mem_nil, or_false] at hF; rcases hF with rfl | rfl | rfl | rfl | rfl | rfl | rfl | rfl | rfl | rfl <;> trivial) _ _ (by kernel_rfl), (congrFun out_iTableOf g).trans ?_⟩
  exact (tofI_eq _).trans (nttV_eq _ _ _)

def tr_sTableOf : Tr :=
  (.evs [.call 0 [(.var 0), (.var 1), (.var 2), (.var 3), (.var 4), (.var 5), (.var 6), (.var 7), (.var 8), (.var 9), (.var 10), (.var 11)] none 1]
  (.ite (.not (.var 12))
  (.ret [(.int .i64 0), (.int .i64 0), (.int .i64 0), (.int .i64 0), (.int .i64 0), (.int .i64 0), (.int .i64 0), (.int .i64 0), (.int .i64 0), (.int .i64 0), (.int .i64 0), (.int .i64 0), (.int .i64 0), (.int .i64 0), (.int .i64 0), (.int .i64 0), (.int .i64 0), (.int .i64 0), (.int .i64 0), (.int .i64 0), (.int .i64 0), (.int .i64 0), (.int .i64 0), (.int .i64 0), (.int .i64 0), (.int .i64 0), (.int .i64 0), (.int .i64 0), (.int .i64 0), (.int .i64 0), (.int .i64 0), (.int .i64 0), (.int .i64 0), (.int .i64 0), (.int .i64 0), (.int .i64 0), (.int .i64 0), (.int .i64 0), (.int .i64 0), (.int .i64 0), (.int .i64 0), (.int .i64 0), (.int .i64 0), (.int .i64 0), (.int .i64 0), (.int .i64 0), (.int .i64 0), (.int .i64 0), (.bool false)])
  (.evs [.call 1 [(.var 0), (.var 1), (.var 2), (.var 3), (.var 4), (.var 5), (.var 6), (.var 7), (.var 8), (.var 9), (.var 10), (.var 11), (.var 12)] none 4]
   (.evs [.call 2 [(.var 0), (.var 1), (.var 2), (.var 3), (.var 4), (.var 5), (.var 6), (.var 7), (.var 8), (.var 9), (.var 10), (.var 11), (.var 16)] none 4]
   (.evs [.call 5 [(.var 0), (.var 1), (.var 2), (.var 3), (.var 4), (.var 5), (.var 6), (.var 7), (.var 8), (.var 9), (.var 10), (.var 11), (.var 20)] none 4]
   (.evs [.call 6 [(.var 0), (.var 1), (.var 2), (.var 3), (.var 4), (.var 5), (.var 6), (.var 7), (.var 8), (.var 9), (.var 10), (.var 11), (.var 24)] none 4]
   (.evs [.call 3 [(.var 0), (.var 1), (.var 2), (.var 3), (.var 4), (.var 5), (.var 6), (.var 7), (.var 8), (.var 9), (.var 10), (.var 11), (.var 28)] none 4]
   (.evs [.call 4 [(.var 0), (.var 1), (.var 2), (.var 3), (.var 4), (.var 5), (.var 6), (.var 7), (.var 8), (.var 9), (.var 10), (.var 11), (.var 32)] none 4]
   (.evs [.call 7 [(.var 0), (.var 1), (.var 2), (.var 3), (.var 4), (.var 5), (.var 6), (.var 7), (.var 8), (.var 9), (.var 10), (.var 11), (.var 36)] none 4]
   (.evs [.call 8 [(.var 0), (.var 1), (.var 2), (.var 3), (.var 4), (.var 5), (.var 6), (.var 7), (.var 8), (.var 9), (.var 10), (.var 11), (.var 40)] none 4]
   (.evs [.call 9 [(.var 0), (.var 1), (.var 2), (.var 3), (.var 4), (.var 5), (.var 6), (.var 7), (.var 8), (.var 9), (.var 10), (.var 11), (.var 44)] none 4]
   (.evs [.call 10 [(.var 0), (.var 1), (.var 2), (.var 3), (.var 4), (.var 5), (.var 6), (.var 7), (.var 8), (.var 9), (.var 10), (.var 11), (.var 48)] none 4]
   (.evs [.call 11 [(.var 0), (.var 1), (.var 2), (.var 3), (.var 4), (.var 5), (.var 6), (.var 7), (.var 8), (.var 9), (.var 10), (.var 11), (.var 52)] none 4]
   (.evs [.call 12 [(.var 0), (.var 1), (.var 2), (.var 3), (.var 4), (.var 5), (.var 6), (.var 7), (.var 8), (.var 9), (.var 10), (.var 11), (.var 56)] none 4]
   (.evs [.call 13 [(.var 0), (.var 1), (.var 2), (.var 3), (.var 4), (.var 5), (.var 6), (.var 7), (.var 8), (.var 9), (.var 10), (.var 11), (.var 60)] none 4]
   (.evs [.call 14 [(.var 0), (.var 1), (.var 2), (.var 3), (.var 4), (.var 5), (.var 6), (.var 7), (.var 8), (.var 9), (.var 10), (.var 11), (.var 64)] none 4]
   (.evs [.call 15 [(.var 0), (.var 1), (.var 2), (.var 3), (.var 4), (.var 5), (.var 6), (.var 7), (.var 8), (.var 9), (.var 10), (.var 11), (.var 68)] none 4]
   (.evs [.call 16 [(.var 0), (.var 1), (.var 2), (.var 3), (.var 4), (.var 5), (.var 6), (.var 7), (.var 8), (.var 9), (.var 10), (.var 11), (.var 72)] none 4]
   (.ite (.not (.var 76))
   (.ret [(.int .i64 0), (.int .i64 0), (.int .i64 0), (.int .i64 0), (.int .i64 0), (.int .i64 0), (.int .i64 0), (.int .i64 0), (.int .i64 0), (.int .i64 0), (.int .i64 0), (.int .i64 0), (.int .i64 0), (.int .i64 0), (.int .i64 0), (.int .i64 0), (.int .i64 0), (.int .i64 0), (.int .i64 0), (.int .i64 0), (.int .i64 0), (.int .i64 0), (.int .i64 0), (.int .i64 0), (.int .i64 0), (.int .i64 0), (.int .i64 0), (.int .i64 0), (.int .i64 0), (.int .i64 0), (.int .i64 0), (.int .i64 0), (.int .i64 0), (.int .i64 0), (.int .i64 0), (.int .i64 0), (.int .i64 0), (.int .i64 0), (.int .i64 0), (.int .i64 0), (.int .i64 0), (.int .i64 0), (.int .i64 0), (.int .i64 0), (.int .i64 0), (.int .i64 0), (.int .i64 0), (.int .i64 0), (.bool false)])
   (.ret [(.var 13), (.var 14), (.var 15), (.var 17), (.var 18), (.var 19), (.var 21), (.var 22), (.var 23), (.var 25), (.var 26), (.var 27), (.var 29), (.var 30), (.var 31), (.var 33), (.var 34), (.var 35), (.var 37), (.var 38), (.var 39), (.var 41), (.var 42), (.var 43), (.var 45), (.var 46), (.var 47), (.var 49), (.var 50), (.var 51), (.var 53), (.var 54), (.var 55), (.var 57), (.var 58), (.var 59), (.var 61), (.var 62), (.var 63), (.var 65), (.var 66), (.var 67), (.var 69), (.var 70), (.var 71), (.var 73), (.var 74), (.var 75), (.bool true)]))))))))))))))))))))
def Fs_sTableOf : List Fun1 := [G_sMatValid, F_l6tPowersA, F_l6tPowersB, F_l6tPowersC, F_l6tPowersD, F_l6tTwo2, F_l6tTwo3, F_l6tTwo6, F_l6tTwo7, F_l6tTwo8, F_l6tTwo9, F_l6tTwo10, F_l6tTwo11, F_l6tTwo12, F_l6tTwo13, F_l6tTwo14, F_l6tTwo15]
def F_sTableOf : Fun1 := ofTree Fs_sTableOf tr_sTableOf
theorem pre_l6tPowersA (ins : List Value) : F_l6tPowersA.pre ins := okT_free (by intro F hF ins; simp only [Fs_l6tPowersA, List.mem_cons, List.not_mem_nil, or_false] at hF; rcases hF with rfl | rfl | rfl | rfl <;> trivial) _ _ (by kernel_rfl)
theorem pre_l6tPowersB (ins : List Value) : F_l6tPowersB.pre ins := okT_free (by intro F hF ins; simp only [Fs_l6tPowersB, List.mem_cons, List.not_mem_nil, or_false] at hF; rcases hF with rfl | rfl | rfl | rfl <;> trivial) _ _ (by kernel_rfl)
theorem pre_l6tPowersC (ins : List Value) : F_l6tPowersC.pre ins := okT_free (by intro F hF ins; simp only [Fs_l6tPowersC, List.mem_cons, List.not_mem_nil, or_false] at hF; rcases hF with rfl | rfl | rfl | rfl <;> trivial) _ _ (by kernel_rfl)
theorem pre_l6tPowersD (ins : List Value) : F_l6tPowersD.pre ins := okT_free (by intro F hF ins; simp only [Fs_l6tPowersD, List.mem_cons, List.not_mem_nil, or_false] at hF; rcases hF with rfl | rfl | rfl | rfl <;> trivial) _ _ (by kernel_rfl)
theorem pre_l6tTwo2 (ins : List Value) : F_l6tTwo2.pre ins := okT_free (by intro F hF ins; simp only [Fs_l6tTwo2, List.mem_cons, List.not_mem_nil, or_false] at hF; rcases hF with rfl | rfl | rfl <;> trivial) _ _ (by kernel_rfl)
theorem pre_l6tTwo3 (ins : List Value) : F_l6tTwo3.pre ins := okT_free (by intro F hF ins; simp only [Fs_l6tTwo3, List.mem_cons, List.not_mem_nil, or_false] at hF; rcases hF with rfl | rfl | rfl <;> trivial) _ _ (by kernel_rfl)
theorem pre_l6tTwo6 (ins : List Value) : F_l6tTwo6.pre ins := okT_free (by intro F hF ins; simp only [Fs_l6tTwo6, List.mem_cons, List.not_mem_nil, or_false] at hF; rcases hF with rfl | rfl | rfl <;> trivial) _ _ (by kernel_rfl)
theorem pre_l6tTwo7 (ins : List Value) : F_l6tTwo7.pre ins := okT_free (by intro F hF ins; simp only [Fs_l6tTwo7, List.mem_cons, List.not_mem_nil, or_false] at hF; rcases hF with rfl | rfl | rfl <;> trivial) _ _ (by kernel_rfl)
theorem pre_l6tTwo8 (ins : List Value) : F_l6tTwo8.pre ins := okT_free (by intro F hF ins; simp only [Fs_l6tTwo8, List.mem_cons, List.not_mem_nil, or_false] at hF; rcases hF with rfl | rfl | rfl <;> trivial) _ _ (by kernel_rfl)
theorem pre_l6tTwo9 (ins : List Value) : F_l6tTwo9.pre ins := okT_free (by intro F hF ins; simp only [Fs_l6tTwo9, List.mem_cons, List.not_mem_nil, or_false] at hF; rcases hF with rfl | rfl | rfl <;> trivial) _ _ (by kernel_rfl)
theorem pre_l6tTwo10 (ins : List Value) : F_l6tTwo10.pre ins := okT_free (by intro F hF ins; simp only [Fs_l6tTwo10, List.mem_cons, List.not_mem_nil, or_false] at hF; rcases hF with rfl | rfl | rfl <;> trivial) _ _ (by kernel_rfl)
theorem pre_l6tTwo11 (ins : List Value) : F_l6tTwo11.pre ins := okT_free (by intro F hF ins; simp only [Fs_l6tTwo11, List.mem_cons, List.not_mem_nil, or_false] at hF; rcases hF with rfl | rfl | rfl <;> trivial) _ _ (by kernel_rfl)
theorem pre_l6tTwo12 (ins : List Value) : F_l6tTwo12.pre ins := okT_free (by intro F hF ins; simp only [Fs_l6tTwo12, List.mem_cons, List.not_mem_nil, or_false] at hF; rcases hF with rfl | rfl | rfl <;> trivial) _ _ (by kernel_rfl)
theorem pre_l6tTwo13 (ins : List Value) : F_l6tTwo13.pre ins := okT_free (by intro F hF ins; simp only [Fs_l6tTwo13, List.mem_cons, List.not_mem_nil, or_false] at hF; rcases hF with rfl | rfl | rfl <;> trivial) _ _ (by kernel_rfl)
theorem pre_l6tTwo14 (ins : List Value) : F_l6tTwo14.pre ins := okT_free (by intro F hF ins; simp only [Fs_l6tTwo14, List.mem_cons, List.not_mem_nil, or_false] at hF; rcases hF with rfl | rfl | rfl <;> trivial) _ _ (by kernel_rfl)
theorem pre_l6tTwo15 (ins : List Value) : F_l6tTwo15.pre ins := okT_free (by intro F hF ins; simp only [Fs_l6tTwo15, List.mem_cons, List.not_mem_nil, or_false] at hF; rcases hF with rfl | rfl | rfl <;> trivial) _ _ (by kernel_rfl)
def G_sTableOf : Fun1 := ⟨fun _ => True, fun ins => nttW 16 (matQ fun k => q3 ins (3 * k)) (toD fun k => q3 ins (3 * k))⟩
theorem out_sTableOf : (fun (g : Nat → Int) => F_sTableOf.out (ivs g 0 12)) = fun g =>
    if toB (.bool (!matQ fun k => q3 (ivs g 0 12) (3 * k))) = true then zeros 48 ++ [.bool false] else nfinS 16 (tofS fun k => q3 (ivs g 0 12) (3 * k)).2 (tofS fun k => q3 (ivs g 0 12) (3 * k)).1 := by kernel_rfl
theorem as_sTableOf (ins : List Value) (ht : TypedL (intTs 12 ++ []) ins) (_ : G_sTableOf.pre ins) : F_sTableOf.pre ins ∧ F_sTableOf.out ins = G_sTableOf.out ins := by
  obtain ⟨g, r, rfl, h1, _⟩ := ints_lit 12 0 ht
  obtain rfl := ints0 h1
  rw [List.append_nil]
  have hF : Free Fs_sTableOf [true, true, true, true, true, true, true, true, true, true, true, true, true, true, true, true, true] :=
    .yes (fun _ => trivial) (.yes pre_l6tPowersA (.yes pre_l6tPowersB (.yes pre_l6tPowersC (.yes pre_l6tPowersD (.yes pre_l6tTwo2 (.yes pre_l6tTwo3 (.yes pre_l6tTwo6 (.yes pre_l6tTwo7 (.yes pre_l6tTwo8 (.yes pre_l6tTwo9 (.yes pre_l6tTwo10 (.yes pre_l6tTwo11 (.yes pre_l6tTwo12 (.yes pre_l6tTwo13 (.yes pre_l6tTwo14 (.yes pre_l6tTwo15 .nil))))))))))))))))
  refine ⟨okT_mask hF _ _ (by kernel_rfl), (congrFun out_sTableOf g).trans ?_⟩
  exact (tofS_eq _).trans (nttV_eq _ _ _)
def A_sTableOf : AF := aAny 49
theorem aok_sTableOf {cb : CodeB} : AOK cb G_sTableOf A_sTableOf := aAny_ok (fun _ => trivial) (fun ins => by simp [G_sTableOf, nttW, ivs_length])

def tr_l5Four : Tr :=
  (.ite (.not (.var 12))
  (.ret [(.int .i64 0), (.int .i64 0), (.int .i64 0), (.int .i64 0), (.int .i64 0), (.int .i64 0), (.int .i64 0), (.int .i64 0), (.int .i64 0), (.int .i64 0), (.int .i64 0), (.int .i64 0), (.bool false)])
  (.ret [(.var 0), (.var 1), (.var 2), (.var 3), (.var 4), (.var 5), (.var 6), (.var 7), (.var 8), (.var 9), (.var 10), (.var 11), (.bool true)]))
def Fs_l5Four : List Fun1 := []
def F_l5Four : Fun1 := ofTree Fs_l5Four tr_l5Four
def G_l5Four : Fun1 := ⟨fun _ => True, fun ins => gotV (!b0 ins 12) ins 0 12 ++ [.bool (b0 ins 12)]⟩
theorem out_l5Four : (fun (g : Nat → Int) => F_l5Four.out (ivs g 0 12 ++ [.bool true])) = fun g => G_l5Four.out (ivs g 0 12 ++ [.bool true]) := by kernel_rfl
theorem out_l5Four' : (fun (g : Nat → Int) => F_l5Four.out (ivs g 0 12 ++ [.bool false])) = fun g => G_l5Four.out (ivs g 0 12 ++ [.bool false]) := by kernel_rfl
theorem as_l5Four (ins : List Value) (ht : TypedL (intTs 12 ++ [.bool]) ins) (_ : G_l5Four.pre ins) : F_l5Four.pre ins ∧ F_l5Four.out ins = G_l5Four.out ins := by
  obtain ⟨g, r, rfl, h1, _⟩ := ints_lit 12 0 ht
  obtain ⟨b, r2, rfl, h2⟩ := bool_cons h1
  obtain rfl := ints0 h2
  refine ⟨okT_free (fun F hF => by cases hF) _ _ (by kernel_rfl), ?_⟩
  cases b
  · exact congrFun out_l5Four' g
  · exact congrFun out_l5Four g
def A_l5Four : AF := aAny 13
theorem aok_l5Four {cb : CodeB} : AOK cb G_l5Four A_l5Four := aAny_ok (fun _ => trivial) (fun ins => by show (gotV _ _ 0 12 ++ _).length = 13; exact rfl)

def tr_sMatTimes : Tr :=
  (.evs [.call 0 [(.var 0), (.var 1), (.var 2), (.var 3), (.var 4), (.var 5), (.var 6), (.var 7), (.var 8), (.var 9), (.var 10), (.var 11)] none 1,
    .call 0 [(.var 12), (.var 13), (.var 14), (.var 15), (.var 16), (.var 17), (.var 18), (.var 19), (.var 20), (.var 21), (.var 22), (.var 23)] (some (.not (.not (.var 24)))) 1]
  (.ite (.ite (.not (.var 24)) (.bool true) (.not (.var 25)))
  (.ret [(.int .i64 0), (.int .i64 0), (.int .i64 0), (.int .i64 0), (.int .i64 0), (.int .i64 0), (.int .i64 0), (.int .i64 0), (.int .i64 0), (.int .i64 0), (.int .i64 0), (.int .i64 0), (.bool false)])
  (.evs [.call 1 [(.var 0), (.var 1), (.var 2), (.var 12), (.var 13), (.var 14), (.var 3), (.var 4), (.var 5), (.var 18), (.var 19), (.var 20)] none 4]
   (.evs [.call 1 [(.var 0), (.var 1), (.var 2), (.var 15), (.var 16), (.var 17), (.var 3), (.var 4), (.var 5), (.var 21), (.var 22), (.var 23)] none 4]
   (.evs [.call 1 [(.var 6), (.var 7), (.var 8), (.var 12), (.var 13), (.var 14), (.var 9), (.var 10), (.var 11), (.var 18), (.var 19), (.var 20)] none 4]
   (.evs [.call 1 [(.var 6), (.var 7), (.var 8), (.var 15), (.var 16), (.var 17), (.var 9), (.var 10), (.var 11), (.var 21), (.var 22), (.var 23)] none 4]
   (.evs [.call 2 [(.var 26), (.var 27), (.var 28), (.var 30), (.var 31), (.var 32), (.var 34), (.var 35), (.var 36), (.var 38), (.var 39), (.var 40), (.ite (.ite (.ite (.var 29) (.var 33) (.bool false)) (.var 37) (.bool false)) (.var 41) (.bool false))] none 13]
   (.ret [(.var 42), (.var 43), (.var 44), (.var 45), (.var 46), (.var 47), (.var 48), (.var 49), (.var 50), (.var 51), (.var 52), (.var 53), (.var 54)]))))))))
def Fs_sMatTimes : List Fun1 := [G_sMatValid, G_l3Inner, G_l5Four]
def F_sMatTimes : Fun1 := ofTree Fs_sMatTimes tr_sMatTimes
def G_sMatTimes : Fun1 := ⟨fun _ => True, fun ins => nttW 4 (matQ (fun k => q3 ins (3 * k)) && matQ (fun k => q3 ins (12 + 3 * k))) (mulM (fun k => q3 ins (3 * k)) (fun k => q3 ins (12 + 3 * k)))⟩
theorem out_sMatTimes : (fun (g : Nat → Int) => evalT' Fs_sMatTimes tr_sMatTimes (ivs g 0 24)) = fun g =>
    mtS (fun k => q3 (ivs g 0 24) (3 * k)) (fun k => q3 (ivs g 0 24) (12 + 3 * k)) := by kernel_rfl
theorem as_sMatTimes (ins : List Value) (ht : TypedL (intTs 24 ++ []) ins) (_ : G_sMatTimes.pre ins) : F_sMatTimes.pre ins ∧ F_sMatTimes.out ins = G_sMatTimes.out ins := by
  obtain ⟨g, r, rfl, h1, _⟩ := ints_lit 24 0 ht
  obtain rfl := ints0 h1
  rw [List.append_nil]
  refine ⟨okT_free (by intro F hF ins; simp only [Fs_sMatTimes, List.mem_cons, List.not_mem_nil, or_false] at hF; rcases hF with rfl | rfl | rfl <;> trivial) _ _ (by kernel_rfl), (evalT_sel (lens := [1]) (Lens.cons (fun _ => rfl) Lens.nil) _ _ (by kernel_rfl)).trans ((congrFun out_sMatTimes g).trans ?_)⟩
  exact (mtS_eq _ _).trans (nttV_eq _ _ _)
def A_sMatTimes : AF := aAny 13
theorem aok_sMatTimes {cb : CodeB} : AOK cb G_sMatTimes A_sMatTimes := aAny_ok (fun _ => trivial) (fun ins => by simp [G_sMatTimes, nttW, ivs_length])

def tr_l5One : Tr :=
  (.ret [(.var 0), (.var 1), (.var 2), (.int .i64 0), (.int .i64 0), (.int .i64 1), (.int .i64 0), (.int .i64 0), (.int .i64 1), (.var 3), (.var 4), (.var 5)])
def Fs_l5One : List Fun1 := []
def F_l5One : Fun1 := ofTree Fs_l5One tr_l5One
def A_l5One : AF := absT [] tr_l5One
theorem aok_l5One {cb : CodeB} : AOK cb F_l5One A_l5One := tree_aok AOKs.nil tr_l5One

def tr_mrow0 : Tr :=
  (.evs [.call 0 [(.var 0), (.var 1), (.var 2), (.var 12), (.var 13), (.var 14), (.var 18)] none 4,
    .call 0 [(.var 3), (.var 4), (.var 5), (.var 15), (.var 16), (.var 17), (.var 22)] none 4,
    .call 1 [(.var 19), (.var 20), (.var 21), (.var 23), (.var 24), (.var 25), (.var 26)] none 4]
  (.ret [(.var 27), (.var 28), (.var 29), (.var 0), (.var 1), (.var 2), (.var 3), (.var 4), (.var 5), (.var 6), (.var 7), (.var 8), (.var 9), (.var 10), (.var 11), (.var 12), (.var 13), (.var 14), (.var 15), (.var 16), (.var 17), (.var 30)]))
def Fs_mrow0 : List Fun1 := [G_times, G_add]
def F_mrow0 : Fun1 := ofTree Fs_mrow0 tr_mrow0
def G_mrow0 : Fun1 := ⟨fun _ => True, fun ins => fl3 [(mixI (b0 ins 18) (q3 ins 0) (q3 ins 12) (q3 ins 3) (q3 ins 15)).1] ++ (copyV ins 0 18 ++ [.bool (mixI (b0 ins 18) (q3 ins 0) (q3 ins 12) (q3 ins 3) (q3 ins 15)).2])⟩
theorem out_mrow0 : (fun (g : Nat → Int) (s : Bool) => F_mrow0.out (ivs g 0 18 ++ [.bool s])) = fun g s => G_mrow0.out (ivs g 0 18 ++ [.bool s]) := by kernel_rfl
theorem as_mrow0 (ins : List Value) (ht : TypedL (intTs 18 ++ [.bool]) ins) (_ : G_mrow0.pre ins) : F_mrow0.pre ins ∧ F_mrow0.out ins = G_mrow0.out ins := by
  obtain ⟨g, r, rfl, h1, _⟩ := ints_lit 18 0 ht
  obtain ⟨s, r2, rfl, h2⟩ := bool_cons h1
  obtain rfl := ints0 h2
  exact ⟨okT_free (by intro F hF ins; simp only [Fs_mrow0, List.mem_cons, List.not_mem_nil, or_false] at hF; rcases hF with rfl | rfl <;> trivial) _ _ (by kernel_rfl), congrFun (congrFun out_mrow0 g) s⟩

def tr_mrow1 : Tr :=
  (.evs [.call 0 [(.var 6), (.var 7), (.var 8), (.var 12), (.var 13), (.var 14), (.var 18)] none 4,
    .call 0 [(.var 9), (.var 10), (.var 11), (.var 15), (.var 16), (.var 17), (.var 22)] none 4,
    .call 1 [(.var 19), (.var 20), (.var 21), (.var 23), (.var 24), (.var 25), (.var 26)] none 4]
  (.ret [(.var 27), (.var 28), (.var 29), (.var 0), (.var 1), (.var 2), (.var 3), (.var 4), (.var 5), (.var 6), (.var 7), (.var 8), (.var 9), (.var 10), (.var 11), (.var 12), (.var 13), (.var 14), (.var 15), (.var 16), (.var 17), (.var 30)]))
def Fs_mrow1 : List Fun1 := [G_times, G_add]
def F_mrow1 : Fun1 := ofTree Fs_mrow1 tr_mrow1
def G_mrow1 : Fun1 := ⟨fun _ => True, fun ins => fl3 [(mixI (b0 ins 18) (q3 ins 6) (q3 ins 12) (q3 ins 9) (q3 ins 15)).1] ++ (copyV ins 0 18 ++ [.bool (mixI (b0 ins 18) (q3 ins 6) (q3 ins 12) (q3 ins 9) (q3 ins 15)).2])⟩
theorem out_mrow1 : (fun (g : Nat → Int) (s : Bool) => F_mrow1.out (ivs g 0 18 ++ [.bool s])) = fun g s => G_mrow1.out (ivs g 0 18 ++ [.bool s]) := by kernel_rfl
theorem as_mrow1 (ins : List Value) (ht : TypedL (intTs 18 ++ [.bool]) ins) (_ : G_mrow1.pre ins) : F_mrow1.pre ins ∧ F_mrow1.out ins = G_mrow1.out ins := by
  obtain ⟨g, r, rfl, h1, _⟩ := ints_lit 18 0 ht
  obtain ⟨s, r2, rfl, h2⟩ := bool_cons h1
  obtain rfl := ints0 h2
  exact ⟨okT_free (by intro F hF ins; simp only [Fs_mrow1, List.mem_cons, List.not_mem_nil, or_false] at hF; rcases hF with rfl | rfl <;> trivial) _ _ (by kernel_rfl), congrFun (congrFun out_mrow1 g) s⟩

def tr_gotJones : Tr :=
  (.ite (.var 6)
  (.ret [(.int .i64 0), (.int .i64 0), (.int .i64 0), (.int .i64 0), (.int .i64 0), (.int .i64 0), (.bool false), (.var 6)])
  (.ret [(.var 0), (.var 1), (.var 2), (.var 3), (.var 4), (.var 5), (.bool true), (.var 6)]))
def Fs_gotJones : List Fun1 := []
def F_gotJones : Fun1 := ofTree Fs_gotJones tr_gotJones
def G_gotJones : Fun1 := ⟨fun _ => True, fun ins => gotV (b0 ins 6) ins 0 6 ++ [.bool (!b0 ins 6), .bool (b0 ins 6)]⟩
theorem out_gotJones : (fun (g : Nat → Int) => F_gotJones.out (ivs g 0 6 ++ [.bool true])) = fun g => G_gotJones.out (ivs g 0 6 ++ [.bool true]) := by kernel_rfl
theorem out_gotJones' : (fun (g : Nat → Int) => F_gotJones.out (ivs g 0 6 ++ [.bool false])) = fun g => G_gotJones.out (ivs g 0 6 ++ [.bool false]) := by kernel_rfl
theorem as_gotJones (ins : List Value) (ht : TypedL (intTs 6 ++ [.bool]) ins) (_ : G_gotJones.pre ins) : F_gotJones.pre ins ∧ F_gotJones.out ins = G_gotJones.out ins := by
  obtain ⟨g, r, rfl, h1, _⟩ := ints_lit 6 0 ht
  obtain ⟨b, r2, rfl, h2⟩ := bool_cons h1
  obtain rfl := ints0 h2
  cases b
  · exact ⟨trivial, congrFun out_gotJones' g⟩
  · exact ⟨trivial, congrFun out_gotJones g⟩

def tr_iJonesValid : Tr :=
  (.evs [.call 0 [(.var 0), (.var 1), (.var 2)] none 1,
    .call 0 [(.var 3), (.var 4), (.var 5)] (some (.var 6)) 1]
  (.ret [(.ite (.var 6) (.var 7) (.bool false))]))
def Fs_iJonesValid : List Fun1 := [G_iFracValid]
def F_iJonesValid : Fun1 := ofTree Fs_iJonesValid tr_iJonesValid
def G_iJonesValid : Fun1 := ⟨fun _ => True, fun ins => [.bool (jonesQ (q3 ins 0) (q3 ins 3))]⟩
theorem as_iJonesValid (ins : List Value) (ht : TypedL [.int .i64, .int .i64, .int .i64, .int .i64, .int .i64, .int .i64] ins) (_ : G_iJonesValid.pre ins) : F_iJonesValid.pre ins ∧ F_iJonesValid.out ins = G_iJonesValid.out ins := by
  obtain ⟨a, b, c, x, y, z, rfl, _⟩ := ints6 ht
  simp only [F_iJonesValid, G_iJonesValid, tr_iJonesValid, Fs_iJonesValid, G_iFracValid, jonesQ, validQ, q3, ofTree, okT, okE, evalT, evalE, evsIn, ev, callF, preF, hasF, needs, i0, b0, toI_int, toB_bool, List.getD_cons_zero, List.getD_cons_succ, List.cons_append, List.nil_append, List.replicate, if_true, if_false, Bool.false_eq_true, and_true, true_and, implies_true, forall_const, false_implies, cmpI, Bool.not_true, Bool.not_false, Bool.true_and, Bool.false_and, Bool.and_true, Bool.and_false, reduceIte, List.append_nil, reduceCtorEq]
  cases h : validI a b c <;> simp [h]

def tr_iMatApply : Tr :=
  (.evs [.call 0 [(.var 0), (.var 1), (.var 2), (.var 3), (.var 4), (.var 5), (.var 6), (.var 7), (.var 8), (.var 9), (.var 10), (.var 11)] none 1,
    .call 1 [(.var 12), (.var 13), (.var 14), (.var 15), (.var 16), (.var 17)] (some (.var 18)) 1,
    .call 2 [(.ite (.var 18) (.var 19) (.bool false)), (.bool false)] none 1]
  (.evs [.call 3 [(.var 0), (.var 1), (.var 2), (.var 3), (.var 4), (.var 5), (.var 6), (.var 7), (.var 8), (.var 9), (.var 10), (.var 11), (.var 12), (.var 13), (.var 14), (.var 15), (.var 16), (.var 17), (.var 20)] none 22,
    .call 4 [(.var 24), (.var 25), (.var 26), (.var 27), (.var 28), (.var 29), (.var 30), (.var 31), (.var 32), (.var 33), (.var 34), (.var 35), (.var 36), (.var 37), (.var 38), (.var 39), (.var 40), (.var 41), (.var 42)] none 22,
    .call 5 [(.var 21), (.var 22), (.var 23), (.var 43), (.var 44), (.var 45), (.var 64)] none 8]
  (.ret [(.var 65), (.var 66), (.var 67), (.var 68), (.var 69), (.var 70), (.var 71)])))
def Fs_iMatApply : List Fun1 := [G_iMatValid, G_iJonesValid, G_need, G_mrow0, G_mrow1, G_gotJones]
def F_iMatApply : Fun1 := ofTree Fs_iMatApply tr_iMatApply
def G_iMatApply : Fun1 := ⟨fun _ => True, fun ins => nttW 2 (matQ (fun k => q3 ins (3 * k)) && jonesQ (q3 ins 12) (q3 ins 15)) (applyD (fun k => q3 ins (3 * k)) (q3 ins 12) (q3 ins 15))⟩
theorem out_iMatApply : (fun (g : Nat → Int) => evalT' Fs_iMatApply tr_iMatApply (ivs g 0 18)) = fun g =>
    gotL (maI (fun k => q3 (ivs g 0 18) (3 * k)) (q3 (ivs g 0 18) 12) (q3 (ivs g 0 18) 15)).2 (maI (fun k => q3 (ivs g 0 18) (3 * k)) (q3 (ivs g 0 18) 12) (q3 (ivs g 0 18) 15)).1 ++ [.bool (!(maI (fun k => q3 (ivs g 0 18) (3 * k)) (q3 (ivs g 0 18) 12) (q3 (ivs g 0 18) 15)).2)] := by kernel_rfl
theorem as_iMatApply (ins : List Value) (ht : TypedL (intTs 18 ++ []) ins) (_ : G_iMatApply.pre ins) : F_iMatApply.pre ins ∧ F_iMatApply.out ins = G_iMatApply.out ins := by
  obtain ⟨g, r, rfl, h1, _⟩ := ints_lit 18 0 ht
  obtain rfl := ints0 h1
  rw [List.append_nil]
  refine ⟨okT_free (by intro F hF ins; simp only [Fs_iMatApply, List.mem_cons, List.not_mem_nil, or_false] at hF; rcases hF with rfl | rfl | rfl | rfl | rfl | rfl <;> trivial) _ _ (by kernel_rfl), (evalT_sel (lens := [1, 1]) (Lens.cons (fun _ => rfl) (Lens.cons (fun _ => rfl) Lens.nil)) _ _ (by kernel_rfl)).trans ((congrFun out_iMatApply g).trans ?_)⟩
  exact (maI_eq _ _ _).trans (nttV_eq _ _ _)

def tr_pick : Tr :=
  (.ite (.ite (.cmp .lss (.var 0) (.int .i64 1)) (.bool true) (.cmp .eql (.len (.var 1)) (.int .i64 0)))
  (.ret [(.int .i64 0), (.var 1), (.ar .add .i64 (.var 2) (.int .i64 1))])
  (.ite (.cmp .lss (.ar .sub .i64 (.ar .add .i64 (.var 2) (.int .i64 1)) (.int .i64 1)) (.len (.var 1)))
   (.evs [.need [(.inb (.var 3) (.ar .sub .i64 (.ar .add .i64 (.var 2) (.int .i64 1)) (.int .i64 1)) 1)],
      .need [(.cmp .neq (.var 0) (.int .i64 0))]]
    (.ret [(.ar .rem .i64 (.conv .i64 (.sel (.var 3) (.ar .sub .i64 (.ar .add .i64 (.var 2) (.int .i64 1)) (.int .i64 1)) 1 0)) (.var 0)), (.var 1), (.ar .add .i64 (.var 2) (.int .i64 1))]))
   (.evs [.need [(.cmp .neq (.len (.var 1)) (.int .i64 0)), (.inb (.var 3) (.ar .rem .i64 (.ar .sub .i64 (.ar .add .i64 (.var 2) (.int .i64 1)) (.int .i64 1)) (.len (.var 1))) 1), (.cmp .neq (.len (.var 1)) (.int .i64 0)), (.inb (.var 3) (.ar .rem .i64 (.ar .add .i64 (.ar .mul .i64 (.ar .sub .i64 (.ar .add .i64 (.var 2) (.int .i64 1)) (.int .i64 1)) (.int .i64 7)) (.int .i64 3)) (.len (.var 1))) 1), (.cmp .neq (.len (.var 1)) (.int .i64 0))],
      .need [(.cmp .neq (.len (.var 1)) (.int .i64 0)), (.inb (.var 3) (.ar .rem .i64 (.ar .sub .i64 (.ar .add .i64 (.var 2) (.int .i64 1)) (.int .i64 1)) (.len (.var 1))) 1), (.cmp .neq (.len (.var 1)) (.int .i64 0)), (.inb (.var 3) (.ar .rem .i64 (.ar .add .i64 (.ar .mul .i64 (.ar .sub .i64 (.ar .add .i64 (.var 2) (.int .i64 1)) (.int .i64 1)) (.int .i64 7)) (.int .i64 3)) (.len (.var 1))) 1), (.cmp .neq (.len (.var 1)) (.int .i64 0))]]
    (.evs [.need [(.bool true)]]
    (.evs [.need [(.cmp .neq (.var 0) (.int .i64 0))]]
    (.ret [(.ar .rem .i64 (.ar .xor .i64 (.ar .add .i64 (.ar .add .i64 (.ar .add .i64 (.ar .mul .i64 (.conv .i64 (.sel (.var 3) (.ar .rem .i64 (.ar .sub .i64 (.ar .add .i64 (.var 2) (.int .i64 1)) (.int .i64 1)) (.len (.var 1))) 1 0)) (.int .i64 131)) (.ar .mul .i64 (.conv .i64 (.sel (.var 3) (.ar .rem .i64 (.ar .add .i64 (.ar .mul .i64 (.ar .sub .i64 (.ar .add .i64 (.var 2) (.int .i64 1)) (.int .i64 1)) (.int .i64 7)) (.int .i64 3)) (.len (.var 1))) 1 0)) (.int .i64 1117))) (.ar .mul .i64 (.ar .sub .i64 (.ar .add .i64 (.var 2) (.int .i64 1)) (.int .i64 1)) (.int .i64 29))) (.ar .mul .i64 (.ar .quo .i64 (.ar .sub .i64 (.ar .add .i64 (.var 2) (.int .i64 1)) (.int .i64 1)) (.len (.var 1))) (.int .i64 53))) (.ar .quo .i64 (.ar .add .i64 (.ar .add .i64 (.ar .add .i64 (.ar .mul .i64 (.conv .i64 (.sel (.var 3) (.ar .rem .i64 (.ar .sub .i64 (.ar .add .i64 (.var 2) (.int .i64 1)) (.int .i64 1)) (.len (.var 1))) 1 0)) (.int .i64 131)) (.ar .mul .i64 (.conv .i64 (.sel (.var 3) (.ar .rem .i64 (.ar .add .i64 (.ar .mul .i64 (.ar .sub .i64 (.ar .add .i64 (.var 2) (.int .i64 1)) (.int .i64 1)) (.int .i64 7)) (.int .i64 3)) (.len (.var 1))) 1 0)) (.int .i64 1117))) (.ar .mul .i64 (.ar .sub .i64 (.ar .add .i64 (.var 2) (.int .i64 1)) (.int .i64 1)) (.int .i64 29))) (.ar .mul .i64 (.ar .quo .i64 (.ar .sub .i64 (.ar .add .i64 (.var 2) (.int .i64 1)) (.int .i64 1)) (.len (.var 1))) (.int .i64 53))) (.int .i64 64))) (.var 0)), (.var 1), (.ar .add .i64 (.var 2) (.int .i64 1))]))))))
def Fs_pick : List Fun1 := []
def F_pick : Fun1 := ofTree Fs_pick tr_pick
theorem pick_tree {arr : Array Value} {b : Value} {n p L : Int} (hL : lenV b = L) (hs : L = (arr.size : Int)) (hL2 : L ≤ 9223372036854775807) (hn : I64 n) (hp : 0 ≤ p ∧ p ≤ 1000000000) (hb : ∀ i : Nat, 0 ≤ toI (arr.getD i undef) ∧ toI (arr.getD i undef) ≤ 255) :
    okT [] tr_pick [.int .i64 n, b, .int .i64 p, .agg arr] ∧ ∃ x, evalT [] tr_pick [.int .i64 n, b, .int .i64 p, .agg arr] = [.int .i64 x, b, .int .i64 (p + 1)] ∧ 0 ≤ x ∧ x ≤ max 0 (n - 1) := by
  have w1 : IntKind.i64.wrap (p + 1) = p + 1 := wrap_in (by omega)
  have w2 : IntKind.i64.wrap (p + 1 - 1) = p := by rw [show p + 1 - 1 = p by omega]; exact wrap_in (by omega)
  have wb : ∀ i : Nat, IntKind.i64.wrap (toI (arr.getD i undef)) = toI (arr.getD i undef) := fun i => wrap_in (by have := hb i; omega)
  unfold tr_pick
  simp only [okT, evalT, okE, evalE, needs, evsIn, ev, cmpI, arI, toI_int, List.getD_cons_zero, List.getD_cons_succ, w1, w2, hL, toB_bool, Value.cells, Nat.mul_one, Nat.add_zero, wb]
  by_cases c1 : n < 1
  · simp only [c1, decide_true, if_true, toB_bool]
    exact ⟨trivial, 0, rfl, by omega, by omega⟩
  by_cases c2 : L = 0
  · simp only [c1, c2, decide_false, Bool.false_eq_true, if_false, toB_bool, beq_self_eq_true, if_true]
    exact ⟨trivial, 0, rfl, by omega, by omega⟩
  have c3 : (L == 0) = false := by simp [c2]
  simp only [c1, c3, decide_false, Bool.false_eq_true, if_false, toB_bool]
  have n0 : (n != 0) = true := by simp; omega
  by_cases c4 : p < L
  · simp only [c4, decide_true, if_true]
    have h1 := hb p.toNat
    obtain ⟨r1, r2⟩ := tmod_rng (n := n) h1.1 (by omega)
    refine ⟨⟨⟨⟨by rw [Value.bool.injEq, decide_eq_true_eq]; omega, trivial⟩, ⟨by rw [n0], trivial⟩, trivial⟩, trivial⟩, _, rfl, r1, by omega⟩
  · simp only [c4, decide_false, Bool.false_eq_true, if_false]
    have w3 : IntKind.i64.wrap (p * 7) = p * 7 := wrap_in (by omega)
    have w4 : IntKind.i64.wrap (p * 7 + 3) = p * 7 + 3 := wrap_in (by omega)
    obtain ⟨a1, a2⟩ := tmod_rng (x := p) (n := L) (by omega) (by omega)
    obtain ⟨b1, b2⟩ := tmod_rng (x := p * 7 + 3) (n := L) (by omega) (by omega)
    obtain ⟨d1, d2⟩ := tdiv_range (x := p) (n := L) (by omega) (by omega)
    simp only [w3, w4]
    have y1 := hb (p.tmod L).toNat
    have y2 := hb ((p * 7 + 3).tmod L).toNat
    generalize toI (arr.getD (p.tmod L).toNat undef) = u at y1 ⊢
    generalize toI (arr.getD ((p * 7 + 3).tmod L).toNat undef) = v at y2 ⊢
    generalize p.tdiv L = z at d1 d2 ⊢
    rw [wrap_in (z := u * 131) (by omega), wrap_in (z := v * 1117) (by omega), wrap_in (z := p * 29) (by omega), wrap_in (z := z) (by omega), wrap_in (z := z * 53) (by omega),
      wrap_in (z := u * 131 + v * 1117) (by omega), wrap_in (z := u * 131 + v * 1117 + p * 29) (by omega), wrap_in (z := u * 131 + v * 1117 + p * 29 + z * 53) (by omega)]
    have hx : 0 ≤ u * 131 + v * 1117 + p * 29 + z * 53 ∧ u * 131 + v * 1117 + p * 29 + z * 53 ≤ 4611686018427387903 := by omega
    generalize u * 131 + v * 1117 + p * 29 + z * 53 = X at hx ⊢
    obtain ⟨t1, t2⟩ := tdiv_range (x := X) (n := 64) hx.1 (by omega)
    rw [wrap_in (z := X.tdiv 64) (by omega)]
    have hxr := xor_nonneg hx (y := X.tdiv 64) (by omega)
    obtain ⟨r1, r2⟩ := tmod_rng (n := n) hxr.1 (by omega)
    have L0 : (L != 0) = true := by simp [c2]
    refine ⟨⟨⟨⟨by rw [L0], by rw [Value.bool.injEq, decide_eq_true_eq]; omega, by rw [L0], by rw [Value.bool.injEq, decide_eq_true_eq]; omega, by rw [L0], trivial⟩, ⟨by rw [L0], by rw [Value.bool.injEq, decide_eq_true_eq]; omega, by rw [L0], by rw [Value.bool.injEq, decide_eq_true_eq]; omega, by rw [L0], trivial⟩, trivial⟩, ⟨⟨trivial, trivial⟩, trivial⟩, ⟨⟨by rw [n0], trivial⟩, trivial⟩, trivial⟩, _, rfl, r1, by omega⟩
def G_pick (cb : CodeB) : Fun1 := ⟨fun ins => goodSl cb (ins.getD 1 undef) ∧ (∃ n, ins.getD 0 undef = .int .i64 n ∧ I64 n) ∧ ∃ p, ins.getD 2 undef = .int .i64 p ∧ 0 ≤ p ∧ p ≤ 1000000000, fun ins => F_pick.out [ins.getD 0 undef, ins.getD 1 undef, ins.getD 2 undef, rowU cb (ins.getD 1 undef)]⟩
theorem pick_facts {cb : CodeB} (hk : CodeOk cb) {n p : Int} {b : Value} (hb : goodSl cb b) (hn : I64 n) (hp : 0 ≤ p ∧ p ≤ 1000000000) :
    F_pick.pre [.int .i64 n, b, .int .i64 p, rowU cb b] ∧ ∃ x, F_pick.out [.int .i64 n, b, .int .i64 p, rowU cb b] = [.int .i64 x, b, .int .i64 (p + 1)] ∧ 0 ≤ x ∧ x ≤ max 0 (n - 1) := by
  obtain ⟨a, len, cap, arr, hv, hr, hsz, hlen, harr⟩ := goodSl_row hk hb
  rw [hr]
  exact pick_tree (L := len) (by rw [hv]; rfl) (by omega) (by omega) hn hp (row_byte harr)
theorem ghost_pick {cb : CodeB} (hk : CodeOk cb) (n b p : Value) (ht : TypedL [.int .i64, .sl, .int .i64] [n, b, p]) (h : (G_pick cb).pre [n, b, p]) : goodSl cb b ∧ F_pick.pre [n, b, p, rowU cb b] ∧ F_pick.out [n, b, p, rowU cb b] = (G_pick cb).out [n, b, p] := by
  obtain ⟨h1, ⟨n, hn, hn'⟩, p, hp, hp'⟩ := h
  have hn : _ = Value.int .i64 n := hn
  have hp : _ = Value.int .i64 p := hp
  simp only [List.getD_cons_zero, List.getD_cons_succ] at hn hp h1
  subst hn hp
  exact ⟨h1, (pick_facts hk h1 hn' hp').1, rfl⟩
theorem aok_pick {cb : CodeB} (hk : CodeOk cb) : AOK cb (G_pick cb) aPick := by
  intro I O h ins hi
  match I, ins, hi, h with
  | [.itv lo hi', .good, .itv a b], [n, s, p], ⟨⟨n', hn, n1, n2⟩, hs, ⟨p', hp, p1, p2⟩, _⟩, h =>
    simp only [aPick] at h
    split at h
    · rename_i hc
      cases h
      simp only [Bool.and_eq_true, decide_eq_true_eq] at hc
      subst hn hp
      have hn64 : I64 n' := by unfold I64; omega
      have hpp : 0 ≤ p' ∧ p' ≤ 1000000000 := by omega
      obtain ⟨q1, x, q2, q3, q4⟩ := pick_facts hk hs hn64 hpp
      refine ⟨⟨hs, ⟨n', rfl, hn64⟩, p', rfl, hpp⟩, ?_⟩
      have e : (G_pick cb).out [.int .i64 n', s, .int .i64 p'] = [.int .i64 x, s, .int .i64 (p' + 1)] := q2
      rw [e]
      exact ⟨⟨x, rfl, q3, by omega⟩, hs, ⟨p' + 1, rfl, by omega, by omega⟩, trivial⟩
    · cases h

def tr_sMatAdjoint : Tr :=
  (.evs [.call 0 [(.var 0), (.var 1), (.var 2)] none 4]
  (.evs [.call 0 [(.var 6), (.var 7), (.var 8)] none 4]
  (.evs [.call 0 [(.var 3), (.var 4), (.var 5)] none 4]
  (.evs [.call 0 [(.var 9), (.var 10), (.var 11)] none 4]
  (.evs [.call 1 [(.var 12), (.var 13), (.var 14), (.var 16), (.var 17), (.var 18), (.var 20), (.var 21), (.var 22), (.var 24), (.var 25), (.var 26), (.ite (.ite (.ite (.var 15) (.var 19) (.bool false)) (.var 23) (.bool false)) (.var 27) (.bool false))] none 13]
  (.ret [(.var 28), (.var 29), (.var 30), (.var 31), (.var 32), (.var 33), (.var 34), (.var 35), (.var 36), (.var 37), (.var 38), (.var 39), (.var 40)]))))))
def Fs_sMatAdjoint : List Fun1 := [G_sFracMirror, G_l5Four]
def F_sMatAdjoint : Fun1 := ofTree Fs_sMatAdjoint tr_sMatAdjoint
def A_sMatAdjoint : AF := absT [A_sFracMirror, A_l5Four] tr_sMatAdjoint
theorem aok_sMatAdjoint {cb : CodeB} : AOK cb F_sMatAdjoint A_sMatAdjoint := tree_aok (AOKs.cons aok_sFracMirror (AOKs.cons aok_l5Four AOKs.nil)) tr_sMatAdjoint

def tr_sMatRotator : Tr :=
  (.evs [.call 0 [(.var 0), (.var 1)] none 7]
  (.evs [.call 1 [(.var 2), (.var 3), (.var 4), (.ar .sub .i64 (.int .i64 0) (.var 5)), (.int .i64 0), (.var 7), (.var 5), (.var 6), (.var 7), (.var 2), (.var 3), (.var 4), (.var 8)] none 13]
  (.ret [(.var 9), (.var 10), (.var 11), (.var 12), (.var 13), (.var 14), (.var 15), (.var 16), (.var 17), (.var 18), (.var 19), (.var 20), (.var 21)])))
def Fs_sMatRotator : List Fun1 := [G_l5Direction, G_l5Four]
def F_sMatRotator : Fun1 := ofTree Fs_sMatRotator tr_sMatRotator
def A_sMatRotator : AF := absT [A_l5Direction, A_l5Four] tr_sMatRotator
theorem aok_sMatRotator {cb : CodeB} : AOK cb F_sMatRotator A_sMatRotator := tree_aok (AOKs.cons aok_l5Direction (AOKs.cons aok_l5Four AOKs.nil)) tr_sMatRotator

def tr_l5PhaseK : Tr :=
  (.evs [.need [(.cmp .leq (.int .i64 0) (.var 0)), (.cmp .lss (.var 0) (.int .i64 4))]]
  (.ret [(.ite (.cmp .eql (.var 0) (.int .i64 0)) (.int .i64 1) (.ite (.cmp .eql (.var 0) (.int .i64 1)) (.int .i64 0) (.ite (.cmp .eql (.var 0) (.int .i64 2)) (.int .i64 (-1)) (.int .i64 0)))), (.ite (.cmp .eql (.var 0) (.int .i64 0)) (.int .i64 0) (.ite (.cmp .eql (.var 0) (.int .i64 1)) (.int .i64 1) (.ite (.cmp .eql (.var 0) (.int .i64 2)) (.int .i64 0) (.int .i64 (-1))))), (.ite (.cmp .eql (.var 0) (.int .i64 0)) (.int .i64 1) (.ite (.cmp .eql (.var 0) (.int .i64 1)) (.int .i64 1) (.ite (.cmp .eql (.var 0) (.int .i64 2)) (.int .i64 1) (.int .i64 1))))]))
def Fs_l5PhaseK : List Fun1 := []
def F_l5PhaseK : Fun1 := ofTree Fs_l5PhaseK tr_l5PhaseK
def A_l5PhaseK : AF := absT [] tr_l5PhaseK
theorem aok_l5PhaseK {cb : CodeB} : AOK cb F_l5PhaseK A_l5PhaseK := tree_aok AOKs.nil tr_l5PhaseK

def tr_sMatPlate : Tr :=
  (.evs [.call 0 [(.var 0), (.var 1)] none 13]
  (.evs [.call 1 [(.var 2), (.int .i64 0), (.int .i64 3)] (some (.not (.not (.var 15)))) 1]
  (.ite (.ite (.not (.var 15)) (.bool true) (.not (.var 16)))
  (.ret [(.int .i64 0), (.int .i64 0), (.int .i64 0), (.int .i64 0), (.int .i64 0), (.int .i64 0), (.int .i64 0), (.int .i64 0), (.int .i64 0), (.int .i64 0), (.int .i64 0), (.int .i64 0), (.bool false)])
  (.evs [.call 2 [(.var 3), (.var 4), (.var 5), (.var 6), (.var 7), (.var 8), (.var 9), (.var 10), (.var 11), (.var 12), (.var 13), (.var 14)] none 13]
   (.evs [.call 3 [(.int .i64 0)] none 3,
     .call 3 [(.var 2)] none 3,
     .call 4 [(.var 30), (.var 31), (.var 32), (.var 33), (.var 34), (.var 35)] none 12,
     .call 5 [(.var 3), (.var 4), (.var 5), (.var 6), (.var 7), (.var 8), (.var 9), (.var 10), (.var 11), (.var 12), (.var 13), (.var 14), (.var 36), (.var 37), (.var 38), (.var 39), (.var 40), (.var 41), (.var 42), (.var 43), (.var 44), (.var 45), (.var 46), (.var 47)] none 13]
   (.evs [.call 5 [(.var 48), (.var 49), (.var 50), (.var 51), (.var 52), (.var 53), (.var 54), (.var 55), (.var 56), (.var 57), (.var 58), (.var 59), (.var 17), (.var 18), (.var 19), (.var 20), (.var 21), (.var 22), (.var 23), (.var 24), (.var 25), (.var 26), (.var 27), (.var 28)] none 13]
   (.ite (.ite (.not (.var 60)) (.bool true) (.not (.var 73)))
   (.ret [(.int .i64 0), (.int .i64 0), (.int .i64 0), (.int .i64 0), (.int .i64 0), (.int .i64 0), (.int .i64 0), (.int .i64 0), (.int .i64 0), (.int .i64 0), (.int .i64 0), (.int .i64 0), (.bool false)])
   (.ret [(.var 61), (.var 62), (.var 63), (.var 64), (.var 65), (.var 66), (.var 67), (.var 68), (.var 69), (.var 70), (.var 71), (.var 72), (.bool true)]))))))))
def Fs_sMatPlate : List Fun1 := [F_sMatRotator, G_l6In, F_sMatAdjoint, F_l5PhaseK, F_l5One, G_sMatTimes]
def F_sMatPlate : Fun1 := ofTree Fs_sMatPlate tr_sMatPlate
def A_sMatPlate : AF := absT [A_sMatRotator, A_l6In, A_sMatAdjoint, A_l5PhaseK, A_l5One, A_sMatTimes] tr_sMatPlate
theorem aok_sMatPlate {cb : CodeB} : AOK cb F_sMatPlate A_sMatPlate := tree_aok (AOKs.cons aok_sMatRotator (AOKs.cons aok_l6In (AOKs.cons aok_sMatAdjoint (AOKs.cons aok_l5PhaseK (AOKs.cons aok_l5One (AOKs.cons aok_sMatTimes AOKs.nil)))))) tr_sMatPlate

def tr_sMatFilter : Tr :=
  (.evs [.call 0 [(.var 0), (.var 1)] none 7]
  (.ite (.not (.var 8))
  (.ret [(.int .i64 0), (.int .i64 0), (.int .i64 0), (.int .i64 0), (.int .i64 0), (.int .i64 0), (.int .i64 0), (.int .i64 0), (.int .i64 0), (.int .i64 0), (.int .i64 0), (.int .i64 0), (.bool false)])
  (.evs [.call 1 [(.var 2), (.var 3), (.var 4), (.var 2), (.var 3), (.var 4)] none 4]
   (.evs [.call 1 [(.var 2), (.var 3), (.var 4), (.var 5), (.var 6), (.var 7)] none 4]
   (.evs [.call 1 [(.var 5), (.var 6), (.var 7), (.var 5), (.var 6), (.var 7)] none 4]
   (.evs [.call 2 [(.var 9), (.var 10), (.var 11), (.var 13), (.var 14), (.var 15), (.var 13), (.var 14), (.var 15), (.var 17), (.var 18), (.var 19), (.ite (.ite (.var 12) (.var 16) (.bool false)) (.var 20) (.bool false))] none 13]
   (.ret [(.var 21), (.var 22), (.var 23), (.var 24), (.var 25), (.var 26), (.var 27), (.var 28), (.var 29), (.var 30), (.var 31), (.var 32), (.var 33)])))))))
def Fs_sMatFilter : List Fun1 := [G_l5Direction, G_sFracTimes, G_l5Four]
def F_sMatFilter : Fun1 := ofTree Fs_sMatFilter tr_sMatFilter
def A_sMatFilter : AF := absT [A_l5Direction, A_sFracTimes, A_l5Four] tr_sMatFilter
theorem aok_sMatFilter {cb : CodeB} : AOK cb F_sMatFilter A_sMatFilter := tree_aok (AOKs.cons aok_l5Direction (AOKs.cons aok_sFracTimes (AOKs.cons aok_l5Four AOKs.nil))) tr_sMatFilter

abbrev F_pickC := G_pick
abbrev A_pickC := aPick
theorem aok_pickC {cb : CodeB} (hk : CodeOk cb) : AOK cb (G_pick cb) aPick := aok_pick hk

abbrev F_openC := G_open
abbrev A_openC := aOpen
theorem aok_openC {cb : CodeB} (_ : CodeOk cb) : AOK cb (G_open cb) aOpen := aok_open

def tr_l91Frac : Tr :=
  (.evs [.call 0 [(.int .i64 40), (.var 0), (.var 1)] none 3]
  (.ite (.cmp .eql (.var 2) (.int .i64 0))
  (.ret [(.int .i64 2), (.int .i64 4), (.int .i64 2), (.var 3), (.var 4)])
  (.ite (.cmp .eql (.var 2) (.int .i64 1))
   (.ret [(.int .i64 1), (.int .i64 0), (.int .i64 0), (.var 3), (.var 4)])
   (.ite (.cmp .eql (.var 2) (.int .i64 2))
    (.ret [(.int .i64 2000000000), (.int .i64 1), (.int .i64 7), (.var 3), (.var 4)])
    (.ite (.cmp .eql (.var 2) (.int .i64 3))
     (.ret [(.int .i64 0), (.int .i64 0), (.int .i64 1), (.var 3), (.var 4)])
     (.evs [.call 0 [(.int .i64 13), (.var 3), (.var 4)] none 3,
        .call 0 [(.int .i64 9), (.var 6), (.var 7)] none 3,
        .call 0 [(.int .i64 2), (.var 9), (.var 10)] none 3,
        .call 0 [(.int .i64 5), (.var 12), (.var 13)] none 3,
        .call 1 [(.ar .sub .i64 (.var 5) (.int .i64 6)), (.ar .mul .i64 (.ar .sub .i64 (.var 8) (.int .i64 4)) (.var 11)), (.ar .add .i64 (.int .i64 1) (.var 14))] none 4]
      (.ret [(.var 17), (.var 18), (.var 19), (.var 15), (.var 16)])))))))
def Fs_l91Frac (cb : CodeB) : List Fun1 := [(F_pickC cb), G_l2Low]
def F_l91Frac (cb : CodeB) : Fun1 := ofTree (Fs_l91Frac cb) tr_l91Frac
def A_l91Frac : AF := absT [A_pickC, A_l2Low] tr_l91Frac
theorem aok_l91Frac {cb : CodeB} (hk : CodeOk cb) : AOK cb (F_l91Frac cb) A_l91Frac := tree_aok (AOKs.cons (aok_pickC hk) (AOKs.cons aok_l2Low AOKs.nil)) tr_l91Frac

def tr_l91Direction : Tr :=
  (.evs [.call 0 [(.int .i64 7), (.var 0), (.var 1)] none 3]
  (.evs [.call 0 [(.int .i64 7), (.var 3), (.var 4)] none 3]
  (.evs [.call 0 [(.int .i64 30), (.var 6), (.var 7)] none 3]
  (.ite (.cmp .eql (.var 8) (.int .i64 0))
  (.ret [(.int .i64 101), (.ar .sub .i64 (.var 5) (.int .i64 3)), (.var 9), (.var 10)])
  (.ret [(.ar .sub .i64 (.var 2) (.int .i64 3)), (.ar .sub .i64 (.var 5) (.int .i64 3)), (.var 9), (.var 10)])))))
def Fs_l91Direction (cb : CodeB) : List Fun1 := [(F_pickC cb)]
def F_l91Direction (cb : CodeB) : Fun1 := ofTree (Fs_l91Direction cb) tr_l91Direction
def A_l91Direction : AF := absT [A_pickC] tr_l91Direction
theorem aok_l91Direction {cb : CodeB} (hk : CodeOk cb) : AOK cb (F_l91Direction cb) A_l91Direction := tree_aok (AOKs.cons (aok_pickC hk) AOKs.nil) tr_l91Direction

def tr_l91Mat : Tr :=
  (.evs [.call 1 [(.var 0), (.var 1)] none 4]
  (.evs [.call 0 [(.int .i64 4), (.var 4), (.var 5)] none 3]
  (.ite (.cmp .eql (.var 6) (.int .i64 0))
  (.evs [.call 2 [(.var 2), (.var 3)] none 13]
   (.ite (.var 21)
   (.ret [(.var 9), (.var 10), (.var 11), (.var 12), (.var 13), (.var 14), (.var 15), (.var 16), (.var 17), (.var 18), (.var 19), (.var 20), (.var 7), (.var 8)])
   (.evs [.call 5 [(.var 7), (.var 8)] none 5]
    (.evs [.call 5 [(.var 25), (.var 26)] none 5]
    (.evs [.call 5 [(.var 30), (.var 31)] none 5]
    (.evs [.call 5 [(.var 35), (.var 36)] none 5]
    (.ret [(.var 22), (.var 23), (.var 24), (.var 27), (.var 28), (.var 29), (.var 32), (.var 33), (.var 34), (.var 37), (.var 38), (.var 39), (.var 40), (.var 41)])))))))
  (.ite (.cmp .eql (.var 6) (.int .i64 1))
   (.evs [.call 0 [(.int .i64 4), (.var 7), (.var 8)] none 3,
      .call 3 [(.var 2), (.var 3), (.var 9)] none 13]
    (.ite (.var 24)
    (.ret [(.var 12), (.var 13), (.var 14), (.var 15), (.var 16), (.var 17), (.var 18), (.var 19), (.var 20), (.var 21), (.var 22), (.var 23), (.var 10), (.var 11)])
    (.evs [.call 5 [(.var 10), (.var 11)] none 5]
     (.evs [.call 5 [(.var 28), (.var 29)] none 5]
     (.evs [.call 5 [(.var 33), (.var 34)] none 5]
     (.evs [.call 5 [(.var 38), (.var 39)] none 5]
     (.ret [(.var 25), (.var 26), (.var 27), (.var 30), (.var 31), (.var 32), (.var 35), (.var 36), (.var 37), (.var 40), (.var 41), (.var 42), (.var 43), (.var 44)])))))))
   (.ite (.cmp .eql (.var 6) (.int .i64 2))
    (.evs [.call 4 [(.var 2), (.var 3)] none 13]
     (.ite (.var 21)
     (.ret [(.var 9), (.var 10), (.var 11), (.var 12), (.var 13), (.var 14), (.var 15), (.var 16), (.var 17), (.var 18), (.var 19), (.var 20), (.var 7), (.var 8)])
     (.evs [.call 5 [(.var 7), (.var 8)] none 5]
      (.evs [.call 5 [(.var 25), (.var 26)] none 5]
      (.evs [.call 5 [(.var 30), (.var 31)] none 5]
      (.evs [.call 5 [(.var 35), (.var 36)] none 5]
      (.ret [(.var 22), (.var 23), (.var 24), (.var 27), (.var 28), (.var 29), (.var 32), (.var 33), (.var 34), (.var 37), (.var 38), (.var 39), (.var 40), (.var 41)])))))))
    (.evs [.call 5 [(.var 7), (.var 8)] none 5]
     (.evs [.call 5 [(.var 12), (.var 13)] none 5]
     (.evs [.call 5 [(.var 17), (.var 18)] none 5]
     (.evs [.call 5 [(.var 22), (.var 23)] none 5]
     (.ret [(.var 9), (.var 10), (.var 11), (.var 14), (.var 15), (.var 16), (.var 19), (.var 20), (.var 21), (.var 24), (.var 25), (.var 26), (.var 27), (.var 28)]))))))))))
def Fs_l91Mat (cb : CodeB) : List Fun1 := [(F_pickC cb), (F_l91Direction cb), F_sMatRotator, F_sMatPlate, F_sMatFilter, (F_l91Frac cb)]
def F_l91Mat (cb : CodeB) : Fun1 := ofTree (Fs_l91Mat cb) tr_l91Mat
def A_l91Mat : AF := absT [A_pickC, A_l91Direction, A_sMatRotator, A_sMatPlate, A_sMatFilter, A_l91Frac] tr_l91Mat
theorem aok_l91Mat {cb : CodeB} (hk : CodeOk cb) : AOK cb (F_l91Mat cb) A_l91Mat := tree_aok (AOKs.cons (aok_pickC hk) (AOKs.cons (aok_l91Direction hk) (AOKs.cons aok_sMatRotator (AOKs.cons aok_sMatPlate (AOKs.cons aok_sMatFilter (AOKs.cons (aok_l91Frac hk) AOKs.nil)))))) tr_l91Mat

def tr_iStokesOfG : Tr :=
  (.evs [.call 0 [(.var 0), (.var 1), (.var 2), (.var 3), (.var 4), (.var 5)] none 1,
    .call 1 [(.var 6), (.bool false)] none 1]
  (.evs [.call 2 [(.var 0), (.var 1), (.var 2), (.var 7)] none 4,
    .call 2 [(.var 3), (.var 4), (.var 5), (.var 11)] none 4]
  (.evs [.call 3 [(.var 3), (.var 4), (.var 5), (.var 15)] none 4,
    .call 4 [(.var 0), (.var 1), (.var 2), (.var 16), (.var 17), (.var 18), (.var 19)] none 4]
  (.evs [.call 5 [] none 0]
  (.evs [.call 8 [(.var 8), (.var 9), (.var 10), (.var 12), (.var 13), (.var 14), (.var 23)] none 4,
    .call 9 [(.var 8), (.var 9), (.var 10), (.var 12), (.var 13), (.var 14), (.var 27)] none 4,
    .call 6 [(.var 20), (.var 21), (.var 22), (.var 31)] none 4,
    .call 4 [(.int .i64 2), (.int .i64 0), (.int .i64 1), (.var 32), (.var 33), (.var 34), (.var 35)] none 4,
    .call 7 [(.var 20), (.var 21), (.var 22), (.var 39)] none 4,
    .call 4 [(.int .i64 2), (.int .i64 0), (.int .i64 1), (.var 40), (.var 41), (.var 42), (.var 43)] none 4,
    .call 10 [(.var 24), (.var 25), (.var 26), (.var 28), (.var 29), (.var 30), (.var 36), (.var 37), (.var 38), (.var 44), (.var 45), (.var 46), (.var 47)] none 14]
  (.ret [(.var 48), (.var 49), (.var 50), (.var 51), (.var 52), (.var 53), (.var 54), (.var 55), (.var 56), (.var 57), (.var 58), (.var 59), (.var 60)]))))))
def Fs_iStokesOfG : List Fun1 := [G_iJonesValid, G_need, G_power, G_mirror, G_times, F_whole2, G_real, G_imag, G_add, G_less, G_gotStokes]
def F_iStokesOfG : Fun1 := ofTree Fs_iStokesOfG tr_iStokesOfG
def G_iStokesOfG : Fun1 := ⟨fun _ => True, fun ins => stW (q3 ins 0) (q3 ins 3)⟩
theorem out_iStokesOfG : (fun (g : Nat → Int) => F_iStokesOfG.out (ivs g 0 6)) = fun g => stW (q3 (ivs g 0 6) 0) (q3 (ivs g 0 6) 3) := by kernel_rfl
theorem as_iStokesOfG (ins : List Value) (ht : TypedL (intTs 6 ++ []) ins) (_ : G_iStokesOfG.pre ins) : F_iStokesOfG.pre ins ∧ F_iStokesOfG.out ins = G_iStokesOfG.out ins := by
  obtain ⟨g, r, rfl, h1, _⟩ := ints_lit 6 0 ht
  obtain rfl := ints0 h1
  rw [List.append_nil]
  exact ⟨okT_free (by intro F hF ins; simp only [Fs_iStokesOfG, List.mem_cons, List.not_mem_nil, or_false] at hF; rcases hF with rfl | rfl | rfl | rfl | rfl | rfl | rfl | rfl | rfl | rfl | rfl <;> trivial) _ _ (by kernel_rfl), congrFun out_iStokesOfG g⟩

def tr_DrawTableOf : Tr :=
  (.evs [.call 0 [(.var 0)] none 2,
    .call 1 [(.var 1), (.var 2)] none 14]
  (.ret [(.var 3), (.var 4), (.var 5), (.var 6), (.var 7), (.var 8), (.var 9), (.var 10), (.var 11), (.var 12), (.var 13), (.var 14)]))
def Fs_DrawTableOf (cb : CodeB) : List Fun1 := [(F_openC cb), (F_l91Mat cb)]
def F_DrawTableOf (cb : CodeB) : Fun1 := ofTree (Fs_DrawTableOf cb) tr_DrawTableOf
def A_DrawTableOf : AF := absT [A_openC, A_l91Mat] tr_DrawTableOf
theorem aok_DrawTableOf {cb : CodeB} (hk : CodeOk cb) : AOK cb (F_DrawTableOf cb) A_DrawTableOf := tree_aok (AOKs.cons (aok_openC hk) (AOKs.cons (aok_l91Mat hk) AOKs.nil)) tr_DrawTableOf

def tr_FnTableOf : Tr :=
  (.ite (.cmp .gtr (.len (.var 0)) (.int .i64 1048576))
  (.ret [(.bool true)])
  (.evs [.call 0 [(.var 0)] none 12]
   (.evs [.call 1 [(.var 1), (.var 2), (.var 3), (.var 4), (.var 5), (.var 6), (.var 7), (.var 8), (.var 9), (.var 10), (.var 11), (.var 12)] none 49]
   (.evs [.call 2 [(.var 1), (.var 2), (.var 3), (.var 4), (.var 5), (.var 6), (.var 7), (.var 8), (.var 9), (.var 10), (.var 11), (.var 12)] none 49]
   (.ite (.ite (.ite (.not (.eqb (.var 61) (.var 110))) (.bool true) (.not (.ite (.cmp .eql (.var 13) (.var 62)) (.ite (.cmp .eql (.var 14) (.var 63)) (.ite (.cmp .eql (.var 15) (.var 64)) (.ite (.cmp .eql (.var 16) (.var 65)) (.ite (.cmp .eql (.var 17) (.var 66)) (.ite (.cmp .eql (.var 18) (.var 67)) (.ite (.cmp .eql (.var 19) (.var 68)) (.ite (.cmp .eql (.var 20) (.var 69)) (.ite (.cmp .eql (.var 21) (.var 70)) (.ite (.cmp .eql (.var 22) (.var 71)) (.ite (.cmp .eql (.var 23) (.var 72)) (.ite (.cmp .eql (.var 24) (.var 73)) (.ite (.cmp .eql (.var 25) (.var 74)) (.ite (.cmp .eql (.var 26) (.var 75)) (.ite (.cmp .eql (.var 27) (.var 76)) (.ite (.cmp .eql (.var 28) (.var 77)) (.ite (.cmp .eql (.var 29) (.var 78)) (.ite (.cmp .eql (.var 30) (.var 79)) (.ite (.cmp .eql (.var 31) (.var 80)) (.ite (.cmp .eql (.var 32) (.var 81)) (.ite (.cmp .eql (.var 33) (.var 82)) (.ite (.cmp .eql (.var 34) (.var 83)) (.ite (.cmp .eql (.var 35) (.var 84)) (.ite (.cmp .eql (.var 36) (.var 85)) (.ite (.cmp .eql (.var 37) (.var 86)) (.ite (.cmp .eql (.var 38) (.var 87)) (.ite (.cmp .eql (.var 39) (.var 88)) (.ite (.cmp .eql (.var 40) (.var 89)) (.ite (.cmp .eql (.var 41) (.var 90)) (.ite (.cmp .eql (.var 42) (.var 91)) (.ite (.cmp .eql (.var 43) (.var 92)) (.ite (.cmp .eql (.var 44) (.var 93)) (.ite (.cmp .eql (.var 45) (.var 94)) (.ite (.cmp .eql (.var 46) (.var 95)) (.ite (.cmp .eql (.var 47) (.var 96)) (.ite (.cmp .eql (.var 48) (.var 97)) (.ite (.cmp .eql (.var 49) (.var 98)) (.ite (.cmp .eql (.var 50) (.var 99)) (.ite (.cmp .eql (.var 51) (.var 100)) (.ite (.cmp .eql (.var 52) (.var 101)) (.ite (.cmp .eql (.var 53) (.var 102)) (.ite (.cmp .eql (.var 54) (.var 103)) (.ite (.cmp .eql (.var 55) (.var 104)) (.ite (.cmp .eql (.var 56) (.var 105)) (.ite (.cmp .eql (.var 57) (.var 106)) (.ite (.cmp .eql (.var 58) (.var 107)) (.ite (.cmp .eql (.var 59) (.var 108)) (.cmp .eql (.var 60) (.var 109)) (.bool false)) (.bool false)) (.bool false)) (.bool false)) (.bool false)) (.bool false)) (.bool false)) (.bool false)) (.bool false)) (.bool false)) (.bool false)) (.bool false)) (.bool false)) (.bool false)) (.bool false)) (.bool false)) (.bool false)) (.bool false)) (.bool false)) (.bool false)) (.bool false)) (.bool false)) (.bool false)) (.bool false)) (.bool false)) (.bool false)) (.bool false)) (.bool false)) (.bool false)) (.bool false)) (.bool false)) (.bool false)) (.bool false)) (.bool false)) (.bool false)) (.bool false)) (.bool false)) (.bool false)) (.bool false)) (.bool false)) (.bool false)) (.bool false)) (.bool false)) (.bool false)) (.bool false)) (.bool false)) (.bool false)))) (.bool true) (.not (.var 61)))
   (.ret [(.ite (.eqb (.var 61) (.var 110)) (.ite (.cmp .eql (.var 13) (.var 62)) (.ite (.cmp .eql (.var 14) (.var 63)) (.ite (.cmp .eql (.var 15) (.var 64)) (.ite (.cmp .eql (.var 16) (.var 65)) (.ite (.cmp .eql (.var 17) (.var 66)) (.ite (.cmp .eql (.var 18) (.var 67)) (.ite (.cmp .eql (.var 19) (.var 68)) (.ite (.cmp .eql (.var 20) (.var 69)) (.ite (.cmp .eql (.var 21) (.var 70)) (.ite (.cmp .eql (.var 22) (.var 71)) (.ite (.cmp .eql (.var 23) (.var 72)) (.ite (.cmp .eql (.var 24) (.var 73)) (.ite (.cmp .eql (.var 25) (.var 74)) (.ite (.cmp .eql (.var 26) (.var 75)) (.ite (.cmp .eql (.var 27) (.var 76)) (.ite (.cmp .eql (.var 28) (.var 77)) (.ite (.cmp .eql (.var 29) (.var 78)) (.ite (.cmp .eql (.var 30) (.var 79)) (.ite (.cmp .eql (.var 31) (.var 80)) (.ite (.cmp .eql (.var 32) (.var 81)) (.ite (.cmp .eql (.var 33) (.var 82)) (.ite (.cmp .eql (.var 34) (.var 83)) (.ite (.cmp .eql (.var 35) (.var 84)) (.ite (.cmp .eql (.var 36) (.var 85)) (.ite (.cmp .eql (.var 37) (.var 86)) (.ite (.cmp .eql (.var 38) (.var 87)) (.ite (.cmp .eql (.var 39) (.var 88)) (.ite (.cmp .eql (.var 40) (.var 89)) (.ite (.cmp .eql (.var 41) (.var 90)) (.ite (.cmp .eql (.var 42) (.var 91)) (.ite (.cmp .eql (.var 43) (.var 92)) (.ite (.cmp .eql (.var 44) (.var 93)) (.ite (.cmp .eql (.var 45) (.var 94)) (.ite (.cmp .eql (.var 46) (.var 95)) (.ite (.cmp .eql (.var 47) (.var 96)) (.ite (.cmp .eql (.var 48) (.var 97)) (.ite (.cmp .eql (.var 49) (.var 98)) (.ite (.cmp .eql (.var 50) (.var 99)) (.ite (.cmp .eql (.var 51) (.var 100)) (.ite (.cmp .eql (.var 52) (.var 101)) (.ite (.cmp .eql (.var 53) (.var 102)) (.ite (.cmp .eql (.var 54) (.var 103)) (.ite (.cmp .eql (.var 55) (.var 104)) (.ite (.cmp .eql (.var 56) (.var 105)) (.ite (.cmp .eql (.var 57) (.var 106)) (.ite (.cmp .eql (.var 58) (.var 107)) (.ite (.cmp .eql (.var 59) (.var 108)) (.cmp .eql (.var 60) (.var 109)) (.bool false)) (.bool false)) (.bool false)) (.bool false)) (.bool false)) (.bool false)) (.bool false)) (.bool false)) (.bool false)) (.bool false)) (.bool false)) (.bool false)) (.bool false)) (.bool false)) (.bool false)) (.bool false)) (.bool false)) (.bool false)) (.bool false)) (.bool false)) (.bool false)) (.bool false)) (.bool false)) (.bool false)) (.bool false)) (.bool false)) (.bool false)) (.bool false)) (.bool false)) (.bool false)) (.bool false)) (.bool false)) (.bool false)) (.bool false)) (.bool false)) (.bool false)) (.bool false)) (.bool false)) (.bool false)) (.bool false)) (.bool false)) (.bool false)) (.bool false)) (.bool false)) (.bool false)) (.bool false)) (.bool false)) (.bool false))])
   (.evs [.call 3 [(.int .i64 1), (.int .i64 0), (.int .i64 1), (.int .i64 0), (.int .i64 0), (.int .i64 1)] none 13]
    (.evs [.call 4 [(.var 13), (.var 14), (.var 15), (.var 16), (.var 17), (.var 18), (.var 19), (.var 20), (.var 21), (.var 22), (.var 23), (.var 24), (.var 25), (.var 26), (.var 27), (.var 28), (.var 29), (.var 30), (.var 31), (.var 32), (.var 33), (.var 34), (.var 35), (.var 36), (.var 37), (.var 38), (.var 39), (.var 40), (.var 41), (.var 42), (.var 43), (.var 44), (.var 45), (.var 46), (.var 47), (.var 48), (.var 49), (.var 50), (.var 51), (.var 52), (.var 53), (.var 54), (.var 55), (.var 56), (.var 57), (.var 58), (.var 59), (.var 60), (.var 111), (.var 112), (.var 113), (.var 114), (.var 115), (.var 116), (.var 117), (.var 118), (.var 119), (.var 120), (.var 121), (.var 122)] none 13]
    (.evs [.call 5 [(.var 1), (.var 2), (.var 3), (.var 4), (.var 5), (.var 6), (.var 7), (.var 8), (.var 9), (.var 10), (.var 11), (.var 12), (.int .i64 1), (.int .i64 0), (.int .i64 1), (.int .i64 0), (.int .i64 0), (.int .i64 1)] none 7]
    (.evs [.call 3 [(.var 137), (.var 138), (.var 139), (.var 140), (.var 141), (.var 142)] none 13]
    (.ite (.ite (.ite (.ite (.ite (.var 123) (.var 136) (.bool false)) (.var 143) (.bool false)) (.var 156) (.bool false)) (.not (.ite (.cmp .eql (.var 124) (.var 144)) (.ite (.cmp .eql (.var 125) (.var 145)) (.ite (.cmp .eql (.var 126) (.var 146)) (.ite (.cmp .eql (.var 127) (.var 147)) (.ite (.cmp .eql (.var 128) (.var 148)) (.ite (.cmp .eql (.var 129) (.var 149)) (.ite (.cmp .eql (.var 130) (.var 150)) (.ite (.cmp .eql (.var 131) (.var 151)) (.ite (.cmp .eql (.var 132) (.var 152)) (.ite (.cmp .eql (.var 133) (.var 153)) (.ite (.cmp .eql (.var 134) (.var 154)) (.cmp .eql (.var 135) (.var 155)) (.bool false)) (.bool false)) (.bool false)) (.bool false)) (.bool false)) (.bool false)) (.bool false)) (.bool false)) (.bool false)) (.bool false)) (.bool false))) (.bool false))
    (.ret [(.bool false)])
    (.evs [.call 3 [(.int .i64 1), (.int .i64 0), (.int .i64 1), (.int .i64 1), (.int .i64 0), (.int .i64 1)] none 13]
     (.evs [.call 4 [(.var 13), (.var 14), (.var 15), (.var 16), (.var 17), (.var 18), (.var 19), (.var 20), (.var 21), (.var 22), (.var 23), (.var 24), (.var 25), (.var 26), (.var 27), (.var 28), (.var 29), (.var 30), (.var 31), (.var 32), (.var 33), (.var 34), (.var 35), (.var 36), (.var 37), (.var 38), (.var 39), (.var 40), (.var 41), (.var 42), (.var 43), (.var 44), (.var 45), (.var 46), (.var 47), (.var 48), (.var 49), (.var 50), (.var 51), (.var 52), (.var 53), (.var 54), (.var 55), (.var 56), (.var 57), (.var 58), (.var 59), (.var 60), (.var 157), (.var 158), (.var 159), (.var 160), (.var 161), (.var 162), (.var 163), (.var 164), (.var 165), (.var 166), (.var 167), (.var 168)] none 13]
     (.evs [.call 5 [(.var 1), (.var 2), (.var 3), (.var 4), (.var 5), (.var 6), (.var 7), (.var 8), (.var 9), (.var 10), (.var 11), (.var 12), (.int .i64 1), (.int .i64 0), (.int .i64 1), (.int .i64 1), (.int .i64 0), (.int .i64 1)] none 7]
     (.evs [.call 3 [(.var 183), (.var 184), (.var 185), (.var 186), (.var 187), (.var 188)] none 13]
     (.ite (.ite (.ite (.ite (.ite (.var 169) (.var 182) (.bool false)) (.var 189) (.bool false)) (.var 202) (.bool false)) (.not (.ite (.cmp .eql (.var 170) (.var 190)) (.ite (.cmp .eql (.var 171) (.var 191)) (.ite (.cmp .eql (.var 172) (.var 192)) (.ite (.cmp .eql (.var 173) (.var 193)) (.ite (.cmp .eql (.var 174) (.var 194)) (.ite (.cmp .eql (.var 175) (.var 195)) (.ite (.cmp .eql (.var 176) (.var 196)) (.ite (.cmp .eql (.var 177) (.var 197)) (.ite (.cmp .eql (.var 178) (.var 198)) (.ite (.cmp .eql (.var 179) (.var 199)) (.ite (.cmp .eql (.var 180) (.var 200)) (.cmp .eql (.var 181) (.var 201)) (.bool false)) (.bool false)) (.bool false)) (.bool false)) (.bool false)) (.bool false)) (.bool false)) (.bool false)) (.bool false)) (.bool false)) (.bool false))) (.bool false))
     (.ret [(.bool false)])
     (.evs [.call 3 [(.int .i64 1), (.int .i64 0), (.int .i64 1), (.int .i64 0), (.int .i64 1), (.int .i64 1)] none 13]
      (.evs [.call 4 [(.var 13), (.var 14), (.var 15), (.var 16), (.var 17), (.var 18), (.var 19), (.var 20), (.var 21), (.var 22), (.var 23), (.var 24), (.var 25), (.var 26), (.var 27), (.var 28), (.var 29), (.var 30), (.var 31), (.var 32), (.var 33), (.var 34), (.var 35), (.var 36), (.var 37), (.var 38), (.var 39), (.var 40), (.var 41), (.var 42), (.var 43), (.var 44), (.var 45), (.var 46), (.var 47), (.var 48), (.var 49), (.var 50), (.var 51), (.var 52), (.var 53), (.var 54), (.var 55), (.var 56), (.var 57), (.var 58), (.var 59), (.var 60), (.var 203), (.var 204), (.var 205), (.var 206), (.var 207), (.var 208), (.var 209), (.var 210), (.var 211), (.var 212), (.var 213), (.var 214)] none 13]
      (.evs [.call 5 [(.var 1), (.var 2), (.var 3), (.var 4), (.var 5), (.var 6), (.var 7), (.var 8), (.var 9), (.var 10), (.var 11), (.var 12), (.int .i64 1), (.int .i64 0), (.int .i64 1), (.int .i64 0), (.int .i64 1), (.int .i64 1)] none 7]
      (.evs [.call 3 [(.var 229), (.var 230), (.var 231), (.var 232), (.var 233), (.var 234)] none 13]
      (.ite (.ite (.ite (.ite (.ite (.var 215) (.var 228) (.bool false)) (.var 235) (.bool false)) (.var 248) (.bool false)) (.not (.ite (.cmp .eql (.var 216) (.var 236)) (.ite (.cmp .eql (.var 217) (.var 237)) (.ite (.cmp .eql (.var 218) (.var 238)) (.ite (.cmp .eql (.var 219) (.var 239)) (.ite (.cmp .eql (.var 220) (.var 240)) (.ite (.cmp .eql (.var 221) (.var 241)) (.ite (.cmp .eql (.var 222) (.var 242)) (.ite (.cmp .eql (.var 223) (.var 243)) (.ite (.cmp .eql (.var 224) (.var 244)) (.ite (.cmp .eql (.var 225) (.var 245)) (.ite (.cmp .eql (.var 226) (.var 246)) (.cmp .eql (.var 227) (.var 247)) (.bool false)) (.bool false)) (.bool false)) (.bool false)) (.bool false)) (.bool false)) (.bool false)) (.bool false)) (.bool false)) (.bool false)) (.bool false))) (.bool false))
      (.ret [(.bool false)])
      (.evs [.call 3 [(.int .i64 1), (.int .i64 0), (.int .i64 1), (.int .i64 (-2)), (.int .i64 1), (.int .i64 3)] none 13]
       (.evs [.call 4 [(.var 13), (.var 14), (.var 15), (.var 16), (.var 17), (.var 18), (.var 19), (.var 20), (.var 21), (.var 22), (.var 23), (.var 24), (.var 25), (.var 26), (.var 27), (.var 28), (.var 29), (.var 30), (.var 31), (.var 32), (.var 33), (.var 34), (.var 35), (.var 36), (.var 37), (.var 38), (.var 39), (.var 40), (.var 41), (.var 42), (.var 43), (.var 44), (.var 45), (.var 46), (.var 47), (.var 48), (.var 49), (.var 50), (.var 51), (.var 52), (.var 53), (.var 54), (.var 55), (.var 56), (.var 57), (.var 58), (.var 59), (.var 60), (.var 249), (.var 250), (.var 251), (.var 252), (.var 253), (.var 254), (.var 255), (.var 256), (.var 257), (.var 258), (.var 259), (.var 260)] none 13]
       (.evs [.call 5 [(.var 1), (.var 2), (.var 3), (.var 4), (.var 5), (.var 6), (.var 7), (.var 8), (.var 9), (.var 10), (.var 11), (.var 12), (.int .i64 1), (.int .i64 0), (.int .i64 1), (.int .i64 (-2)), (.int .i64 1), (.int .i64 3)] none 7]
       (.evs [.call 3 [(.var 275), (.var 276), (.var 277), (.var 278), (.var 279), (.var 280)] none 13]
       (.ite (.ite (.ite (.ite (.ite (.var 261) (.var 274) (.bool false)) (.var 281) (.bool false)) (.var 294) (.bool false)) (.not (.ite (.cmp .eql (.var 262) (.var 282)) (.ite (.cmp .eql (.var 263) (.var 283)) (.ite (.cmp .eql (.var 264) (.var 284)) (.ite (.cmp .eql (.var 265) (.var 285)) (.ite (.cmp .eql (.var 266) (.var 286)) (.ite (.cmp .eql (.var 267) (.var 287)) (.ite (.cmp .eql (.var 268) (.var 288)) (.ite (.cmp .eql (.var 269) (.var 289)) (.ite (.cmp .eql (.var 270) (.var 290)) (.ite (.cmp .eql (.var 271) (.var 291)) (.ite (.cmp .eql (.var 272) (.var 292)) (.cmp .eql (.var 273) (.var 293)) (.bool false)) (.bool false)) (.bool false)) (.bool false)) (.bool false)) (.bool false)) (.bool false)) (.bool false)) (.bool false)) (.bool false)) (.bool false))) (.bool false))
       (.ret [(.bool false)])
       (.evs [.call 6 [(.var 13), (.var 14), (.var 15), (.var 16), (.var 17), (.var 18), (.var 19), (.var 20), (.var 21), (.var 22), (.var 23), (.var 24), (.var 25), (.var 26), (.var 27), (.var 28), (.var 29), (.var 30), (.var 31), (.var 32), (.var 33), (.var 34), (.var 35), (.var 36), (.var 37), (.var 38), (.var 39), (.var 40), (.var 41), (.var 42), (.var 43), (.var 44), (.var 45), (.var 46), (.var 47), (.var 48), (.var 49), (.var 50), (.var 51), (.var 52), (.var 53), (.var 54), (.var 55), (.var 56), (.var 57), (.var 58), (.var 59), (.var 60)] none 1]
        (.ret [(.var 295)])))))))))))))))))))))))))))
def Fs_FnTableOf : List Fun1 := [G_iTableOf, G_sTableOf, G_iStokesOfG, G_iTableApply, G_iMatApply, G_iTableValid]
def dt_FnTableOf : List Ty := [.int .i64, .int .i64, .int .i64, .int .i64, .int .i64, .int .i64, .int .i64, .int .i64, .int .i64, .int .i64, .int .i64, .int .i64]
def Ss_FnTableOf (cb : CodeB) : List Spec := drawSpec dt_FnTableOf (drawPre cb) :: specsOf Fs_FnTableOf
def tl_FnTableOf : Tr := match tr_FnTableOf with
  | .ite _ _ (.evs _ t) => t
  | t => t
theorem sh_FnTableOf : tr_FnTableOf = .ite (.cmp .gtr (.len (.var 0)) (.int .i64 1048576)) (.ret [.bool true]) (.evs [.call 0 [.var 0] none 12] tl_FnTableOf) := by kernel_rfl
def tofO (ins : List Value) : Bool := nttT 16 (matQ fun k => q3 ins (3 * k)) (toD fun k => q3 ins (3 * k))
def tofH (ins : List Value) : Nat → Int := nttH 16 (matQ fun k => q3 ins (3 * k)) (toD fun k => q3 ins (3 * k))
def aO (ins : List Value) : Bool := nttT 4 (apQ ins) (apD ins)
def aH (ins : List Value) : Nat → Int := nttH 4 (apQ ins) (apD ins)
def vO (ins : List Value) : Bool := nttT 2 (matQ (fun k => q3 ins (3 * k)) && jonesQ (q3 ins 12) (q3 ins 15)) (applyD (fun k => q3 ins (3 * k)) (q3 ins 12) (q3 ins 15))
def vH (ins : List Value) : Nat → Int := nttH 2 (matQ (fun k => q3 ins (3 * k)) && jonesQ (q3 ins 12) (q3 ins 15)) (applyD (fun k => q3 ins (3 * k)) (q3 ins 12) (q3 ins 15))
def oT (g : Nat → Int) : Nat → Int := tofH (ivs g 0 12)
def aI (g : Nat → Int) (x y : Q) : List Value := ivs (oT g) 0 48 ++ ivs (stH x y) 0 12
def mI (g : Nat → Int) (x y : Q) : List Value := ivs g 0 12 ++ [.int .i64 x.1, .int .i64 x.2.1, .int .i64 x.2.2, .int .i64 y.1, .int .i64 y.2.1, .int .i64 y.2.2]
def wX (g : Nat → Int) (x y : Q) : Q := tri (vH (mI g x y)) 0
def wY (g : Nat → Int) (x y : Q) : Q := tri (vH (mI g x y)) 3
def cV (g : Nat → Int) (x y : Q) : Value := cnd (!(stk x y).2) (aO (aI g x y)) (vO (mI g x y)) (!(stk (wX g x y) (wY g x y)).2) (eqL (aH (aI g x y)) (stH (wX g x y) (wY g x y)) 0 12)
theorem vec_law {g : Nat → Int} (h0 : tofO (ivs g 0 12) = true) (x y : Q) : cV g x y = .bool false := by
  refine cnd_false fun hp hq hr hu => ?_
  have hp : (stk x y).2 = false := by simpa using hp
  have hu : (stk (wX g x y) (wY g x y)).2 = false := by simpa using hu
  refine eq_tri (n := 4) fun r hr4 => ?_
  have eg : ∀ k, k < 4 → q3 (ivs g 0 12) (3 * k) = tri g (3 * k) := get4 rfl rfl rfl rfl
  have em : ∀ k, k < 4 → q3 (mI g x y) (3 * k) = tri g (3 * k) := get4 rfl rfl rfl rfl
  have et : ∀ k, k < 16 → q3 (aI g x y) (3 * k) = tri (oT g) (3 * k) := get16 rfl rfl rfl rfl rfl rfl rfl rfl rfl rfl rfl rfl rfl rfl rfl rfl
  have es : ∀ k, k < 4 → q3 (aI g x y) (48 + 3 * k) = (stk x y).1.getD k zq := fun k hk => by
    rw [← stH_tri hp k]
    revert k
    exact get4 rfl rfl rfl rfl
  have ht : ∀ k, k < 16 → toD (fun k => tri g (3 * k)) k = some (tri (oT g) (3 * k)) := fun k hk => by
    obtain ⟨v, hv⟩ := (nttT_ok h0).2 k hk
    rw [show tri (oT g) (3 * k) = v from ntt_tri h0 hv, ← toD_congr eg k hk]
    exact hv
  have hw : ∀ k, k < 2 → applyD (fun k => tri g (3 * k)) x y k = some (tri (vH (mI g x y)) (3 * k)) := fun k hk => by
    obtain ⟨v, hv⟩ := (nttT_ok hr).2 k hk
    rw [show tri (vH (mI g x y)) (3 * k) = v from ntt_tri hr hv]
    have hv : mixQ (q3 (mI g x y) (3 * (2 * k))) x (q3 (mI g x y) (3 * (2 * k + 1))) y = some v := hv
    rwa [em (2 * k) (by omega), em (2 * k + 1) (by omega)] at hv
  obtain ⟨v, hv⟩ := (nttT_ok hq).2 r hr4
  rw [show tri (aH (aI g x y)) (3 * r) = v from ntt_tri hq hv, stH_tri hu r]
  have hv : dotQ (rowF (fun k => q3 (aI g x y) (3 * k)) r) (fun k => q3 (aI g x y) (48 + 3 * k)) = some v := hv
  rw [dot_congr (row_congr et hr4) es] at hv
  exact of_apply ht hp (hw 0 (by omega)) (hw 1 (by omega)) hu hr4 hv
theorem valid_law {g : Nat → Int} (h0 : tofO (ivs g 0 12) = true) : tabQ (fun k => q3 (ivs (oT g) 0 48) (3 * k)) = true := by
  have e : ∀ k, k < 16 → q3 (ivs (oT g) 0 48) (3 * k) = tri (oT g) (3 * k) := get16 rfl rfl rfl rfl rfl rfl rfl rfl rfl rfl rfl rfl rfl rfl rfl rfl
  have key : ∀ (n k : Nat), (∀ i, k ≤ i → i < k + n → realQ (q3 (ivs (oT g) 0 48) (3 * i)) = true) → allB (fun i => realQ (q3 (ivs (oT g) 0 48) (3 * i))) k n = true := by
    intro n
    induction n with
    | zero => intro _ _; rfl
    | succ n ih => intro k h; rw [allB, h k (Nat.le_refl _) (by omega), ih (k + 1) fun i h1 h2 => h i (by omega) (by omega)]; rfl
  refine key 16 0 fun k _ hk => ?_
  obtain ⟨v, hv⟩ := (nttT_ok h0).2 k (by omega)
  rw [e k (by omega), show tri (oT g) (3 * k) = v from ntt_tri h0 hv]
  obtain ⟨_, h2, h3⟩ := toD_val k (by omega) hv
  exact realQ_of h3 h2
theorem ok_FnTableOf : (fun (v : Value) (g : Nat → Int) => okT (nope :: Fs_FnTableOf) tl_FnTableOf (v :: ivs g 0 12)) = fun v g => (True ∧ True) ∧ (True ∧ True) ∧
    (if toB (if toB (if toB (.bool (!(tofO (ivs g 0 12) == tofO (ivs g 0 12)))) = true then .bool true else .bool (!toB (eqL (oT g) (oT g) 0 48))) = true then .bool true else .bool (!tofO (ivs g 0 12))) = true then True else (True ∧ True) ∧ (True ∧ True) ∧ (True ∧ True) ∧ (True ∧ True) ∧ (if toB (cV g (1, 0, 1) (0, 0, 1)) = true then True else (True ∧ True) ∧ (True ∧ True) ∧ (True ∧ True) ∧ (True ∧ True) ∧ (if toB (cV g (1, 0, 1) (1, 0, 1)) = true then True else (True ∧ True) ∧ (True ∧ True) ∧ (True ∧ True) ∧ (True ∧ True) ∧ (if toB (cV g (1, 0, 1) (0, 1, 1)) = true then True else (True ∧ True) ∧ (True ∧ True) ∧ (True ∧ True) ∧ (True ∧ True) ∧ (if toB (cV g (1, 0, 1) (-2, 1, 3)) = true then True else (True ∧ True) ∧ True))))) := by kernel_rfl
theorem out_FnTableOf : (fun (v : Value) (g : Nat → Int) => evalT (nope :: Fs_FnTableOf) tl_FnTableOf (v :: ivs g 0 12)) = fun v g =>
    if toB (if toB (if toB (.bool (!(tofO (ivs g 0 12) == tofO (ivs g 0 12)))) = true then .bool true else .bool (!toB (eqL (oT g) (oT g) 0 48))) = true then .bool true else .bool (!tofO (ivs g 0 12))) = true then [if toB (.bool (tofO (ivs g 0 12) == tofO (ivs g 0 12))) = true then eqL (oT g) (oT g) 0 48 else .bool false] else if toB (cV g (1, 0, 1) (0, 0, 1)) = true then [.bool false] else if toB (cV g (1, 0, 1) (1, 0, 1)) = true then [.bool false] else if toB (cV g (1, 0, 1) (0, 1, 1)) = true then [.bool false] else if toB (cV g (1, 0, 1) (-2, 1, 3)) = true then [.bool false] else [.bool (tabQ fun k => q3 (ivs (oT g) 0 48) (3 * k))] := by kernel_rfl
theorem sat_FnTableOf (P : Program) (cb : CodeB) (ins : List Value) (K : List Value → Prop) (_ : TypedL [.sl] ins) (hp : (lawF cb).pre ins) (hK : K [.bool true]) : sat P (Ss_FnTableOf cb) tr_FnTableOf ins [] K := by
  rw [sh_FnTableOf]
  refine sat_draws' (fun v outs ht => ?_) hp hK
  obtain ⟨g, r, rfl, h1, _⟩ := ints_lit 12 0 (ts := []) ht
  obtain rfl := ints0 h1
  rw [List.append_nil]
  have e1 := congrFun (congrFun ok_FnTableOf v) g
  have e2 := congrFun (congrFun out_FnTableOf v) g
  have es : eqL (oT g) (oT g) 0 48 = .bool true := eqL_true _ _ fun _ _ _ => rfl
  simp only [es, beq_self_eq_true, Bool.not_true, toB_bool, Bool.false_eq_true, if_false, if_true] at e1 e2
  cases h0 : tofO (ivs g 0 12) with
  | false =>
    rw [h0] at e1 e2
    exact ⟨by rw [e1]; simp, by rw [e2]; simp⟩
  | true =>
    simp only [h0, vec_law h0, valid_law h0, Bool.not_true, toB_bool, Bool.false_eq_true, if_false] at e1 e2
    exact ⟨by rw [e1]; simp, e2⟩

end Go.Sx

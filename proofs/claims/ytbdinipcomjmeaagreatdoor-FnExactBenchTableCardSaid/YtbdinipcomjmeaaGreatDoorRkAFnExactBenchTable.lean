import Derived.Test.YtbdinipcomjmeaaGreatDoorEf
import Derived.KernelRfl
namespace Go.Sx
open Go
set_option maxRecDepth 100000
set_option linter.unusedSimpArgs false
set_option linter.unusedVariables false
def tr_size : Tr :=
  (.ret [(.mx false .i64 (.var 0) (.ar .sub .i64 (.int .i64 0) (.var 0)))])
def Fs_size : List Fun1 := []
def F_size : Fun1 := ofTree Fs_size tr_size
def tr_within : Tr :=
  (.ret [(.ite (.cmp .geq (.var 0) (.var 1)) (.cmp .leq (.var 0) (.var 2)) (.bool false))])
def Fs_within : List Fun1 := []
def F_within : Fun1 := ofTree Fs_within tr_within
def G_within : Fun1 := ⟨fun _ => True, fun ins => [.bool (inRg (i0 ins 0) (i0 ins 1) (i0 ins 2))]⟩
theorem as_within (ins : List Value) (ht : TypedL [.int .i64, .int .i64, .int .i64] ins) (_ : G_within.pre ins) : F_within.pre ins ∧ F_within.out ins = G_within.out ins := by
  obtain ⟨a, b, c, rfl, _, _, _⟩ := ints3 ht
  refine ⟨trivial, ?_⟩
  show [if (decide (a ≥ b)) = true then Value.bool (decide (a ≤ c)) else Value.bool false] = [Value.bool (decide (b ≤ a) && decide (a ≤ c))]
  by_cases h : b ≤ a <;> simp [h]
def tr_l6In : Tr :=
  (.ret [(.ite (.cmp .geq (.var 0) (.var 1)) (.cmp .leq (.var 0) (.var 2)) (.bool false))])
def Fs_l6In : List Fun1 := []
def F_l6In : Fun1 := ofTree Fs_l6In tr_l6In
def G_l6In : Fun1 := ⟨fun _ => True, fun ins => [.bool (inRg (i0 ins 0) (i0 ins 1) (i0 ins 2))]⟩
theorem as_l6In (ins : List Value) (ht : TypedL [.int .i64, .int .i64, .int .i64] ins) (_ : G_l6In.pre ins) : F_l6In.pre ins ∧ F_l6In.out ins = G_l6In.out ins := by
  obtain ⟨a, b, c, rfl, _, _, _⟩ := ints3 ht
  refine ⟨trivial, ?_⟩
  show [if (decide (a ≥ b)) = true then Value.bool (decide (a ≤ c)) else Value.bool false] = [Value.bool (decide (b ≤ a) && decide (a ≤ c))]
  by_cases h : b ≤ a <;> simp [h]
def tr_l2In : Tr :=
  (.evs [.call 0 [(.var 0), (.int .i64 (-2000000000)), (.int .i64 2000000000)] none 1]
  (.ret [(.var 1)]))
def Fs_l2In : List Fun1 := [G_l6In]
def F_l2In : Fun1 := ofTree Fs_l2In tr_l2In
def G_l2In : Fun1 := ⟨fun _ => True, fun ins => [.bool (inR (i0 ins 0))]⟩
theorem as_l2In (ins : List Value) (ht : TypedL [.int .i64] ins) (_ : G_l2In.pre ins) : F_l2In.pre ins ∧ F_l2In.out ins = G_l2In.out ins := by
  obtain ⟨a, rfl, _⟩ := ints1 ht
  exact ⟨⟨⟨trivial, trivial⟩, trivial⟩, rfl⟩
def tr_divisor : Tr :=
  (.lp 0 [(.var 0), (.var 1)] [.int .i64, .int .i64]
  (.ite (.cmp .neq (.var 3) (.int .i64 0))
   (.evs [.need [(.cmp .neq (.var 3) (.int .i64 0))]]
    (.next 0 [(.var 3), (.ar .rem .i64 (.var 2) (.var 3))]))
   (.ret [(.var 2)])))
def Fs_divisor : List Fun1 := []
def F_divisor : Fun1 := ⟨fun _ => True, fun ins => [.int .i64 (euc (i0 ins 0) (i0 ins 1))]⟩
theorem sat_divisor (P : Program) (ins : List Value) (K : List Value → Prop) (ht : TypedL [.int .i64, .int .i64] ins) (_ : F_divisor.pre ins) (hK : K (F_divisor.out ins)) : sat P (specsOf Fs_divisor) tr_divisor ins [] K := by
  obtain ⟨a, b, rfl, wa, wb⟩ := ints2 ht
  refine ⟨fun vs => ∃ x y, vs = [.int .i64 x, .int .i64 y] ∧ euc x y = euc a b, fun vs => (toI (vs.getD 1 undef)).natAbs, ⟨a, b, rfl, rfl⟩, ?_⟩
  rintro vs hty ⟨x, y, rfl, he⟩
  refine ⟨fun hc => ?_, fun hc => ?_⟩
  · have hy : y ≠ 0 := by simpa [ev, cmpI] using hc
    refine ⟨fun e he' => by rw [List.mem_singleton.1 he']; exact hc, ⟨_, _, rfl, ?_⟩, ?_⟩
    · rw [← he, euc_step hy]; rfl
    · show (x.tmod y).natAbs < y.natAbs
      rw [Int.natAbs_tmod]
      exact Nat.mod_lt _ (by omega)
  · have hy : y = 0 := by simpa [ev, cmpI] using hc
    subst hy
    rw [euc_zero] at he
    show K [.int .i64 x]
    rw [he]
    exact hK
def tr_l2Gcd : Tr :=
  (.lp 0 [(.var 0), (.var 1)] [.int .i64, .int .i64]
  (.ite (.cmp .neq (.var 3) (.int .i64 0))
   (.evs [.need [(.cmp .neq (.var 3) (.int .i64 0))]]
    (.next 0 [(.var 3), (.ar .rem .i64 (.var 2) (.var 3))]))
   (.ret [(.mx false .i64 (.var 2) (.ar .sub .i64 (.int .i64 0) (.var 2)))])))
def Fs_l2Gcd : List Fun1 := []
def F_l2Gcd : Fun1 := ⟨fun _ => True, fun ins => [.int .i64 (mxI false (euc (i0 ins 0) (i0 ins 1)) (IntKind.i64.wrap (0 - euc (i0 ins 0) (i0 ins 1))))]⟩
theorem sat_l2Gcd (P : Program) (ins : List Value) (K : List Value → Prop) (ht : TypedL [.int .i64, .int .i64] ins) (_ : F_l2Gcd.pre ins) (hK : K (F_l2Gcd.out ins)) : sat P (specsOf Fs_l2Gcd) tr_l2Gcd ins [] K := by
  obtain ⟨a, b, rfl, wa, wb⟩ := ints2 ht
  refine ⟨fun vs => ∃ x y, vs = [.int .i64 x, .int .i64 y] ∧ euc x y = euc a b, fun vs => (toI (vs.getD 1 undef)).natAbs, ⟨a, b, rfl, rfl⟩, ?_⟩
  rintro vs hty ⟨x, y, rfl, he⟩
  refine ⟨fun hc => ?_, fun hc => ?_⟩
  · have hy : y ≠ 0 := by simpa [ev, cmpI] using hc
    refine ⟨fun e he' => by rw [List.mem_singleton.1 he']; exact hc, ⟨_, _, rfl, ?_⟩, ?_⟩
    · rw [← he, euc_step hy]; rfl
    · show (x.tmod y).natAbs < y.natAbs
      rw [Int.natAbs_tmod]
      exact Nat.mod_lt _ (by omega)
  · have hy : y = 0 := by simpa [ev, cmpI] using hc
    subst hy
    rw [euc_zero] at he
    show K [.int .i64 (mxI false x (IntKind.i64.wrap (0 - x)))]
    rw [he]
    exact hK
def tr_lowest : Tr :=
  (.evs [.call 0 [(.var 0)] none 1,
    .call 0 [(.var 1)] none 1,
    .call 1 [(.var 3), (.var 4)] none 1,
    .call 1 [(.var 5), (.var 2)] none 1]
  (.evs [.need [(.cmp .neq (.var 6) (.int .i64 0)), (.cmp .neq (.var 6) (.int .i64 0)), (.cmp .neq (.var 6) (.int .i64 0))]]
  (.evs [.call 2 [(.ar .quo .i64 (.var 0) (.var 6)), (.int .i64 (-2000000000)), (.int .i64 2000000000)] none 1,
    .call 2 [(.ar .quo .i64 (.var 1) (.var 6)), (.int .i64 (-2000000000)), (.int .i64 2000000000)] (some (.not (.not (.var 7)))) 1]
  (.ite (.ite (.ite (.not (.var 7)) (.bool true) (.not (.var 8))) (.bool true) (.cmp .gtr (.ar .quo .i64 (.var 2) (.var 6)) (.int .i64 2000000000)))
  (.ret [(.int .i64 0), (.int .i64 0), (.int .i64 0), (.bool false)])
  (.ret [(.ar .quo .i64 (.var 0) (.var 6)), (.ar .quo .i64 (.var 1) (.var 6)), (.ar .quo .i64 (.var 2) (.var 6)), (.bool true)])))))
def Fs_lowest : List Fun1 := [F_size, F_divisor, G_within]
def F_lowest : Fun1 := ofTree Fs_lowest tr_lowest
def G_lowest : Fun1 := ⟨fun ins => lowOk (i0 ins 0) (i0 ins 1) (i0 ins 2), fun ins => fr4 (lowI (i0 ins 0) (i0 ins 1) (i0 ins 2))⟩
theorem as_lowest (ins : List Value) (ht : TypedL [.int .i64, .int .i64, .int .i64] ins) (hp : G_lowest.pre ins) : F_lowest.pre ins ∧ F_lowest.out ins = G_lowest.out ins := by
  obtain ⟨a, b, c, rfl, wa, wb, wc⟩ := ints3 ht
  obtain ⟨p1, p2, p3, p4, p5, p6⟩ : lowOk a b c := hp
  have e1 := size_abs ⟨p1, p2⟩
  have e2 := size_abs ⟨p3, p4⟩
  have e3 : euc (a.natAbs : Nat) (b.natAbs : Nat) = (Nat.gcd a.natAbs b.natAbs : Nat) := euc_nat _ _
  have e4 : euc (Nat.gcd a.natAbs b.natAbs : Nat) c = (gcd3 a b c : Nat) := by rw [euc_eq (by omega) (by omega)]; rfl
  have hg : gcd3 a b c ≠ 0 := by have := gcd3_pos (a := a) (b := b) p5; omega
  have hgi : ((gcd3 a b c : Nat) : Int) ≠ 0 := by omega
  have q1 := quo_ok (g := gcd3 a b c) ⟨p1, p2⟩
  have q2 := quo_ok (g := gcd3 a b c) ⟨p3, p4⟩
  have q3 := quo_ok (a := c) (g := gcd3 a b c) ⟨by omega, p6⟩
  simp only [F_lowest, G_lowest, tr_lowest, Fs_lowest, F_size, tr_size, Fs_size, F_divisor, G_within, lowI, arI, ofTree, okT, okE, evalT, evalE, evsIn, ev, callF, preF, hasF, needs, i0, b0, toI_int, toB_bool, List.getD_cons_zero, List.getD_cons_succ, List.cons_append, List.nil_append, List.replicate, if_true, if_false, Bool.false_eq_true, and_true, true_and, implies_true, forall_const, false_implies, cmpI, Bool.not_true, Bool.not_false, Bool.true_and, Bool.false_and, Bool.and_true, Bool.and_false, reduceIte, List.append_nil, reduceCtorEq, e1, e2, e3, e4, q1, q2, q3]
  have r1 : ∀ z, inRg z (-2000000000) 2000000000 = inR z := fun _ => rfl
  simp only [r1]
  cases h1 : inR (a.tdiv (gcd3 a b c)) <;> cases h2 : inR (b.tdiv (gcd3 a b c)) <;> by_cases h3 : c.tdiv (gcd3 a b c) ≤ 2000000000 <;> simp [h1, h2, h3, hgi, hg, fr4, zq] <;> omega
def tr_sFracValid : Tr :=
  (.evs [.call 0 [(.var 0)] none 1,
    .call 0 [(.var 1)] (some (.var 3)) 1,
    .call 1 [(.var 2), (.int .i64 1), (.int .i64 2000000000)] (some (.ite (.var 3) (.var 4) (.bool false))) 1,
    .call 2 [(.var 2), (.var 0)] (some (.ite (.ite (.var 3) (.var 4) (.bool false)) (.var 5) (.bool false))) 1,
    .call 2 [(.var 6), (.var 1)] (some (.ite (.ite (.var 3) (.var 4) (.bool false)) (.var 5) (.bool false))) 1]
  (.ret [(.ite (.ite (.ite (.var 3) (.var 4) (.bool false)) (.var 5) (.bool false)) (.cmp .eql (.var 7) (.int .i64 1)) (.bool false))]))
def Fs_sFracValid : List Fun1 := [G_l2In, G_l6In, F_l2Gcd]
def F_sFracValid : Fun1 := ofTree Fs_sFracValid tr_sFracValid
def G_sFracValid : Fun1 := ⟨fun _ => True, fun ins => [.bool (validI (i0 ins 0) (i0 ins 1) (i0 ins 2))]⟩
theorem as_sFracValid (ins : List Value) (ht : TypedL [.int .i64, .int .i64, .int .i64] ins) (_ : G_sFracValid.pre ins) : F_sFracValid.pre ins ∧ F_sFracValid.out ins = G_sFracValid.out ins := by
  obtain ⟨a, b, c, rfl, wa, wb, wc⟩ := ints3 ht
  have key : inR a = true → inR b = true → inRg c 1 2000000000 = true → mxI false (euc c a) (IntKind.i64.wrap (0 - euc c a)) = (Nat.gcd c.natAbs a.natAbs : Nat) ∧
      mxI false (euc (Nat.gcd c.natAbs a.natAbs : Nat) b) (IntKind.i64.wrap (0 - euc (Nat.gcd c.natAbs a.natAbs : Nat) b)) = (gcd3 a b c : Nat) := by
    intro ha hb hc
    simp only [inR, inRg, Bool.and_eq_true, decide_eq_true_eq] at ha hb hc
    have h0 : Nat.gcd c.natAbs a.natAbs ≤ c.natAbs := Nat.gcd_le_left _ (by omega)
    have hp : 0 < Nat.gcd c.natAbs a.natAbs := Nat.gcd_pos_of_pos_left _ (by omega)
    refine ⟨gcd_small (by omega), ?_⟩
    have h2 : Nat.gcd ((Nat.gcd c.natAbs a.natAbs : Nat) : Int).natAbs b.natAbs ≤ Nat.gcd c.natAbs a.natAbs := Nat.gcd_le_left _ hp
    rw [gcd_small (by omega), Int.natAbs_natCast, gcd3_alt]
  simp only [F_sFracValid, G_sFracValid, tr_sFracValid, Fs_sFracValid, G_l2In, G_l6In, F_l2Gcd, validI, ofTree, okT, okE, evalT, evalE, evsIn, ev, callF, preF, hasF, needs, i0, b0, toI_int, toB_bool, List.getD_cons_zero, List.getD_cons_succ, List.cons_append, List.nil_append, List.replicate, if_true, if_false, Bool.false_eq_true, and_true, true_and, implies_true, forall_const, false_implies, cmpI, Bool.not_true, Bool.not_false, Bool.true_and, Bool.false_and, Bool.and_true, Bool.and_false, reduceIte, List.append_nil, reduceCtorEq]
  cases ha : inR a
  · simp [ha]
  · cases hb : inR b
    · simp [ha, hb]
    · cases hc : inRg c 1 2000000000
      · simp [ha, hb, hc]
      · obtain ⟨k1, k2⟩ := key ha hb hc
        simp only [ha, hb, hc, k1, k2, ofTree, okT, okE, evalT, evalE, evsIn, ev, callF, preF, hasF, needs, i0, b0, toI_int, toB_bool, List.getD_cons_zero, List.getD_cons_succ, List.cons_append, List.nil_append, List.replicate, if_true, if_false, Bool.false_eq_true, and_true, true_and, implies_true, forall_const, false_implies, cmpI, Bool.not_true, Bool.not_false, Bool.true_and, Bool.false_and, Bool.and_true, Bool.and_false, reduceIte, List.append_nil, reduceCtorEq]
        simp
        by_cases h1 : gcd3 a b c = 1
        · simp [h1]
        · rw [beq_eq_false_iff_ne.2 h1, beq_eq_false_iff_ne]
          omega
def tr_l2Low : Tr :=
  (.evs [.call 0 [(.var 2), (.var 0)] none 1,
    .call 0 [(.var 3), (.var 1)] none 1]
  (.evs [.need [(.cmp .neq (.var 4) (.int .i64 0)), (.cmp .neq (.var 4) (.int .i64 0)), (.cmp .neq (.var 4) (.int .i64 0))]]
  (.evs [.call 1 [(.ar .quo .i64 (.var 0) (.var 4)), (.ar .quo .i64 (.var 1) (.var 4)), (.ar .quo .i64 (.var 2) (.var 4))] none 1]
  (.ite (.not (.var 5))
  (.ret [(.int .i64 0), (.int .i64 0), (.int .i64 0), (.bool false)])
  (.ret [(.ar .quo .i64 (.var 0) (.var 4)), (.ar .quo .i64 (.var 1) (.var 4)), (.ar .quo .i64 (.var 2) (.var 4)), (.bool true)])))))
def Fs_l2Low : List Fun1 := [F_l2Gcd, G_sFracValid]
def F_l2Low : Fun1 := ofTree Fs_l2Low tr_l2Low
def G_l2Low : Fun1 := ⟨fun ins => lowOk (i0 ins 0) (i0 ins 1) (i0 ins 2), fun ins => fr4 (lowI (i0 ins 0) (i0 ins 1) (i0 ins 2))⟩
theorem as_l2Low (ins : List Value) (ht : TypedL [.int .i64, .int .i64, .int .i64] ins) (hp : G_l2Low.pre ins) : F_l2Low.pre ins ∧ F_l2Low.out ins = G_l2Low.out ins := by
  obtain ⟨a, b, c, rfl, wa, wb, wc⟩ := ints3 ht
  obtain ⟨p1, p2, p3, p4, p5, p6⟩ : lowOk a b c := hp
  have hc0 : 0 < c.natAbs := by omega
  have g1 : Nat.gcd c.natAbs a.natAbs ≤ c.natAbs := Nat.gcd_le_left _ hc0
  have gp : 0 < Nat.gcd c.natAbs a.natAbs := Nat.gcd_pos_of_pos_left _ hc0
  have e1 : mxI false (euc c a) (IntKind.i64.wrap (0 - euc c a)) = (Nat.gcd c.natAbs a.natAbs : Nat) := gcd_small (by omega)
  have g2 : Nat.gcd ((Nat.gcd c.natAbs a.natAbs : Nat) : Int).natAbs b.natAbs ≤ Nat.gcd c.natAbs a.natAbs := Nat.gcd_le_left _ gp
  have e2 : mxI false (euc (Nat.gcd c.natAbs a.natAbs : Nat) b) (IntKind.i64.wrap (0 - euc (Nat.gcd c.natAbs a.natAbs : Nat) b)) = (gcd3 a b c : Nat) := by
    rw [gcd_small (by omega), Int.natAbs_natCast, gcd3_alt]
  have hg : gcd3 a b c ≠ 0 := by have := gcd3_pos (a := a) (b := b) p5; omega
  have hgi : ((gcd3 a b c : Nat) : Int) ≠ 0 := by omega
  have q1 := quo_ok (g := gcd3 a b c) ⟨p1, p2⟩
  have q2 := quo_ok (g := gcd3 a b c) ⟨p3, p4⟩
  have q3 := quo_ok (a := c) (g := gcd3 a b c) ⟨by omega, p6⟩
  simp only [F_l2Low, G_l2Low, tr_l2Low, Fs_l2Low, F_l2Gcd, G_sFracValid, lowI, arI, ofTree, okT, okE, evalT, evalE, evsIn, ev, callF, preF, hasF, needs, i0, b0, toI_int, toB_bool, List.getD_cons_zero, List.getD_cons_succ, List.cons_append, List.nil_append, List.replicate, if_true, if_false, Bool.false_eq_true, and_true, true_and, implies_true, forall_const, false_implies, cmpI, Bool.not_true, Bool.not_false, Bool.true_and, Bool.false_and, Bool.and_true, Bool.and_false, reduceIte, List.append_nil, reduceCtorEq, e1, e2, q1, q2, q3, valid_low p5]
  cases h1 : inR (a.tdiv (gcd3 a b c)) <;> cases h2 : inR (b.tdiv (gcd3 a b c)) <;> by_cases h3 : c.tdiv (gcd3 a b c) ≤ 2000000000 <;> simp [h1, h2, h3, hgi, hg, fr4, zq] <;> omega
def tr_sFracMake : Tr :=
  (.evs [.call 0 [(.var 2), (.int .i64 1), (.int .i64 1000000000000000000)] none 1,
    .call 0 [(.var 0), (.int .i64 (-1000000000000000000)), (.int .i64 1000000000000000000)] (some (.not (.not (.var 3)))) 1,
    .call 0 [(.var 1), (.int .i64 (-1000000000000000000)), (.int .i64 1000000000000000000)] (some (.not (.ite (.not (.var 3)) (.bool true) (.not (.var 4))))) 1]
  (.ite (.ite (.ite (.not (.var 3)) (.bool true) (.not (.var 4))) (.bool true) (.not (.var 5)))
  (.ret [(.int .i64 0), (.int .i64 0), (.int .i64 0), (.bool false)])
  (.evs [.call 1 [(.var 0), (.var 1), (.var 2)] none 4]
   (.ret [(.var 6), (.var 7), (.var 8), (.var 9)]))))
def Fs_sFracMake : List Fun1 := [G_l6In, G_l2Low]
def F_sFracMake : Fun1 := ofTree Fs_sFracMake tr_sFracMake
def G_sFracMake : Fun1 := ⟨fun _ => True, fun ins => fr4 (makeI (i0 ins 0) (i0 ins 1) (i0 ins 2))⟩
theorem as_sFracMake (ins : List Value) (ht : TypedL [.int .i64, .int .i64, .int .i64] ins) (hp : G_sFracMake.pre ins) : F_sFracMake.pre ins ∧ F_sFracMake.out ins = G_sFracMake.out ins := by
  obtain ⟨a, b, c, rfl, wa, wb, wc⟩ := ints3 ht
  have hlow : inRg c 1 most = true → inRg a (-most) most = true → inRg b (-most) most = true → lowOk a b c := by
    intro h1 h2 h3
    simp only [inRg, Bool.and_eq_true, decide_eq_true_eq] at h1 h2 h3
    unfold most at h1 h2 h3
    unfold lowOk
    omega
  obtain ⟨x, y, z, t, hx⟩ := fr4_split (lowI a b c)
  simp only [F_sFracMake, G_sFracMake, tr_sFracMake, Fs_sFracMake, G_l6In, G_l2Low, makeI, ofTree, okT, okE, evalT, evalE, evsIn, ev, callF, preF, hasF, needs, i0, b0, toI_int, toB_bool, List.getD_cons_zero, List.getD_cons_succ, List.cons_append, List.nil_append, List.replicate, if_true, if_false, Bool.false_eq_true, and_true, true_and, implies_true, forall_const, false_implies, cmpI, Bool.not_true, Bool.not_false, Bool.true_and, Bool.false_and, Bool.and_true, Bool.and_false, reduceIte, List.append_nil, reduceCtorEq]
  have r1 : inRg c 1 1000000000000000000 = inRg c 1 most := rfl
  have r2 : ∀ z, inRg z (-1000000000000000000) 1000000000000000000 = inRg z (-most) most := fun _ => rfl
  simp only [r1, r2]
  cases h1 : inRg c 1 most
  · simp [h1, fr4, zq]
  · cases h2 : inRg a (-most) most
    · simp [h1, h2, fr4, zq]
    · cases h3 : inRg b (-most) most
      · simp [h1, h2, h3, fr4, zq]
      · simp [h1, h2, h3, hx, hlow h1 h2 h3]
def tr_direction : Tr :=
  (.evs [.call 0 [(.var 0), (.int .i64 (-100)), (.int .i64 100)] none 1,
    .call 0 [(.var 1), (.int .i64 (-100)), (.int .i64 100)] (some (.not (.not (.var 2)))) 1]
  (.ite (.ite (.ite (.not (.var 2)) (.bool true) (.not (.var 3))) (.bool true) (.ite (.cmp .eql (.var 0) (.int .i64 0)) (.cmp .eql (.var 1) (.int .i64 0)) (.bool false)))
  (.ret [(.int .i64 0), (.int .i64 0), (.int .i64 0), (.int .i64 0), (.int .i64 0), (.int .i64 0), (.bool false)])
  (.evs [.call 1 [(.ar .sub .i64 (.ar .mul .i64 (.var 0) (.var 0)) (.ar .mul .i64 (.var 1) (.var 1))), (.int .i64 0), (.ar .add .i64 (.ar .mul .i64 (.var 0) (.var 0)) (.ar .mul .i64 (.var 1) (.var 1)))] none 4]
   (.evs [.call 1 [(.ar .mul .i64 (.ar .mul .i64 (.int .i64 2) (.var 0)) (.var 1)), (.int .i64 0), (.ar .add .i64 (.ar .mul .i64 (.var 0) (.var 0)) (.ar .mul .i64 (.var 1) (.var 1)))] none 4]
   (.ret [(.var 4), (.var 5), (.var 6), (.var 8), (.var 9), (.var 10), (.bool true)])))))
def Fs_direction : List Fun1 := [G_within, G_lowest]
def F_direction : Fun1 := ofTree Fs_direction tr_direction
def G_direction : Fun1 := ⟨fun _ => True, fun ins => dirV (i0 ins 0) (i0 ins 1)⟩
theorem as_direction (ins : List Value) (ht : TypedL [.int .i64, .int .i64] ins) (hp : G_direction.pre ins) : F_direction.pre ins ∧ F_direction.out ins = G_direction.out ins := by
  obtain ⟨p, q, rfl, wp, wq⟩ := ints2 ht
  obtain ⟨x1, y1, z1, t1, hx1, hx1'⟩ := fr4_fr3 (lowI (p * p - q * q) 0 (p * p + q * q))
  obtain ⟨x2, y2, z2, t2, hx2, hx2'⟩ := fr4_fr3 (lowI (2 * p * q) 0 (p * p + q * q))
  simp only [F_direction, G_direction, tr_direction, Fs_direction, G_within, G_lowest, arI, ofTree, okT, okE, evalT, evalE, evsIn, ev, callF, preF, hasF, needs, i0, b0, toI_int, toB_bool, List.getD_cons_zero, List.getD_cons_succ, List.cons_append, List.nil_append, List.replicate, if_true, if_false, Bool.false_eq_true, and_true, true_and, implies_true, forall_const, false_implies, cmpI, Bool.not_true, Bool.not_false, Bool.true_and, Bool.false_and, Bool.and_true, Bool.and_false, reduceIte, List.append_nil, reduceCtorEq]
  cases h1 : inRg p (-100) 100
  · simp [h1, dirV, dirOk, dirC, dirS, fr3, zq]
  · cases h2 : inRg q (-100) 100
    · simp [h1, h2, dirV, dirOk, dirC, dirS, fr3, zq]
    · by_cases h3 : (p == 0 && q == 0) = true
      · have e3 := h3
        simp only [Bool.and_eq_true, beq_iff_eq] at e3
        obtain ⟨rfl, rfl⟩ := e3
        simp [h1, dirV, dirOk, dirC, dirS, fr3, zq]
      · have hd : dirOk p q = true := by
          simp only [dirOk, h1, h2, Bool.true_and]
          cases hb : (p == 0 && q == 0) with
          | true => exact absurd hb h3
          | false => rfl
        obtain ⟨l1, l2, w1, w2, w3, w4, w5, w6, _⟩ := dir_facts hd
        have h3' : (p == 0 && q == 0) = false := by simpa using h3
        have h4 : ¬(p = 0 ∧ q = 0) := by rintro ⟨rfl, rfl⟩; exact h3 rfl
        simp only [dirV, dirC, dirS, hd, if_true, hx1', hx2', w1, w2, w3, w4, w5, w6, hx1, hx2, h1, h2, ofTree, okT, okE, evalT, evalE, evsIn, ev, callF, preF, hasF, needs, i0, b0, toI_int, toB_bool, List.getD_cons_zero, List.getD_cons_succ, List.cons_append, List.nil_append, List.replicate, if_true, if_false, Bool.false_eq_true, and_true, true_and, implies_true, forall_const, false_implies, cmpI, Bool.not_true, Bool.not_false, Bool.true_and, Bool.false_and, Bool.and_true, Bool.and_false, reduceIte, List.append_nil, reduceCtorEq]
        clear hd w1 w2 w3 w4 w5 w6 hx1 hx2 hx1' hx2' h1 h2 ht hp
        generalize p * p - q * q = A at *
        generalize 2 * p * q = B at *
        generalize p * p + q * q = C at *
        by_cases h5 : p = 0
        · by_cases h6 : q = 0
          · exact absurd ⟨h5, h6⟩ h4
          · simp [h5, h6, l1, l2]
        · simp [h5, l1, l2]
def tr_l5Direction : Tr :=
  (.evs [.call 0 [(.var 0), (.int .i64 (-100)), (.int .i64 100)] none 1,
    .call 0 [(.var 1), (.int .i64 (-100)), (.int .i64 100)] (some (.not (.not (.var 2)))) 1]
  (.ite (.ite (.ite (.not (.var 2)) (.bool true) (.not (.var 3))) (.bool true) (.ite (.cmp .eql (.var 0) (.int .i64 0)) (.cmp .eql (.var 1) (.int .i64 0)) (.bool false)))
  (.ret [(.int .i64 0), (.int .i64 0), (.int .i64 0), (.int .i64 0), (.int .i64 0), (.int .i64 0), (.bool false)])
  (.evs [.call 1 [(.ar .sub .i64 (.ar .mul .i64 (.var 0) (.var 0)) (.ar .mul .i64 (.var 1) (.var 1))), (.int .i64 0), (.ar .add .i64 (.ar .mul .i64 (.var 0) (.var 0)) (.ar .mul .i64 (.var 1) (.var 1)))] none 4]
   (.evs [.call 1 [(.ar .mul .i64 (.ar .mul .i64 (.int .i64 2) (.var 0)) (.var 1)), (.int .i64 0), (.ar .add .i64 (.ar .mul .i64 (.var 0) (.var 0)) (.ar .mul .i64 (.var 1) (.var 1)))] none 4]
   (.ret [(.var 4), (.var 5), (.var 6), (.var 8), (.var 9), (.var 10), (.bool true)])))))
def Fs_l5Direction : List Fun1 := [G_l6In, G_sFracMake]
def F_l5Direction : Fun1 := ofTree Fs_l5Direction tr_l5Direction
def G_l5Direction : Fun1 := ⟨fun _ => True, fun ins => dirV (i0 ins 0) (i0 ins 1)⟩
theorem as_l5Direction (ins : List Value) (ht : TypedL [.int .i64, .int .i64] ins) (hp : G_l5Direction.pre ins) : F_l5Direction.pre ins ∧ F_l5Direction.out ins = G_l5Direction.out ins := by
  obtain ⟨p, q, rfl, wp, wq⟩ := ints2 ht
  obtain ⟨x1, y1, z1, t1, hx1, hx1'⟩ := fr4_fr3 (lowI (p * p - q * q) 0 (p * p + q * q))
  obtain ⟨x2, y2, z2, t2, hx2, hx2'⟩ := fr4_fr3 (lowI (2 * p * q) 0 (p * p + q * q))
  simp only [F_l5Direction, G_l5Direction, tr_l5Direction, Fs_l5Direction, G_l6In, G_sFracMake, arI, ofTree, okT, okE, evalT, evalE, evsIn, ev, callF, preF, hasF, needs, i0, b0, toI_int, toB_bool, List.getD_cons_zero, List.getD_cons_succ, List.cons_append, List.nil_append, List.replicate, if_true, if_false, Bool.false_eq_true, and_true, true_and, implies_true, forall_const, false_implies, cmpI, Bool.not_true, Bool.not_false, Bool.true_and, Bool.false_and, Bool.and_true, Bool.and_false, reduceIte, List.append_nil, reduceCtorEq]
  cases h1 : inRg p (-100) 100
  · simp [h1, dirV, dirOk, dirC, dirS, fr3, zq]
  · cases h2 : inRg q (-100) 100
    · simp [h1, h2, dirV, dirOk, dirC, dirS, fr3, zq]
    · by_cases h3 : (p == 0 && q == 0) = true
      · have e3 := h3
        simp only [Bool.and_eq_true, beq_iff_eq] at e3
        obtain ⟨rfl, rfl⟩ := e3
        simp [h1, dirV, dirOk, dirC, dirS, fr3, zq]
      · have hd : dirOk p q = true := by
          simp only [dirOk, h1, h2, Bool.true_and]
          cases hb : (p == 0 && q == 0) with
          | true => exact absurd hb h3
          | false => rfl
        obtain ⟨l1, l2, w1, w2, w3, w4, w5, w6, k1, k2, k3, k4, k5, k6⟩ := dir_facts hd
        have h3' : (p == 0 && q == 0) = false := by simpa using h3
        have h4 : ¬(p = 0 ∧ q = 0) := by rintro ⟨rfl, rfl⟩; exact h3 rfl
        have m1 := make_small k3 k4 k1 k2
        have m2 := make_small k5 k6 k1 k2
        simp only [m1, m2, dirV, dirC, dirS, hd, if_true, hx1', hx2', w1, w2, w3, w4, w5, w6, hx1, hx2, h1, h2, ofTree, okT, okE, evalT, evalE, evsIn, ev, callF, preF, hasF, needs, i0, b0, toI_int, toB_bool, List.getD_cons_zero, List.getD_cons_succ, List.cons_append, List.nil_append, List.replicate, if_true, if_false, Bool.false_eq_true, and_true, true_and, implies_true, forall_const, false_implies, cmpI, Bool.not_true, Bool.not_false, Bool.true_and, Bool.false_and, Bool.and_true, Bool.and_false, reduceIte, List.append_nil, reduceCtorEq]
        clear m1 m2 k1 k2 k3 k4 k5 k6 hd w1 w2 w3 w4 w5 w6 hx1 hx2 hx1' hx2' h1 h2 ht hp
        generalize p * p - q * q = A at *
        generalize 2 * p * q = B at *
        generalize p * p + q * q = C at *
        by_cases h5 : p = 0
        · by_cases h6 : q = 0
          · exact absurd ⟨h5, h6⟩ h4
          · simp [h5, h6, l1, l2]
        · simp [h5, l1, l2]
def tr_iFracValid : Tr :=
  (.evs [.call 0 [(.var 0), (.int .i64 (-2000000000)), (.int .i64 2000000000)] none 1,
    .call 0 [(.var 1), (.int .i64 (-2000000000)), (.int .i64 2000000000)] (some (.var 3)) 1,
    .call 0 [(.var 2), (.int .i64 1), (.int .i64 2000000000)] (some (.ite (.var 3) (.var 4) (.bool false))) 1,
    .call 2 [(.var 0)] (some (.ite (.ite (.var 3) (.var 4) (.bool false)) (.var 5) (.bool false))) 1,
    .call 2 [(.var 1)] (some (.ite (.ite (.var 3) (.var 4) (.bool false)) (.var 5) (.bool false))) 1,
    .call 1 [(.var 6), (.var 7)] (some (.ite (.ite (.var 3) (.var 4) (.bool false)) (.var 5) (.bool false))) 1,
    .call 1 [(.var 8), (.var 2)] (some (.ite (.ite (.var 3) (.var 4) (.bool false)) (.var 5) (.bool false))) 1]
  (.ret [(.ite (.ite (.ite (.var 3) (.var 4) (.bool false)) (.var 5) (.bool false)) (.cmp .eql (.var 9) (.int .i64 1)) (.bool false))]))
def Fs_iFracValid : List Fun1 := [G_within, F_divisor, F_size]
def F_iFracValid : Fun1 := ofTree Fs_iFracValid tr_iFracValid
def G_iFracValid : Fun1 := ⟨fun _ => True, fun ins => [.bool (validI (i0 ins 0) (i0 ins 1) (i0 ins 2))]⟩
theorem as_iFracValid (ins : List Value) (ht : TypedL [.int .i64, .int .i64, .int .i64] ins) (_ : G_iFracValid.pre ins) : F_iFracValid.pre ins ∧ F_iFracValid.out ins = G_iFracValid.out ins := by
  obtain ⟨a, b, c, rfl, wa, wb, wc⟩ := ints3 ht
  have key : inR a = true → inR b = true → inRg c 1 2000000000 = true → mxI false a (IntKind.i64.wrap (0 - a)) = a.natAbs ∧ mxI false b (IntKind.i64.wrap (0 - b)) = b.natAbs ∧
      euc (a.natAbs : Nat) (b.natAbs : Nat) = (Nat.gcd a.natAbs b.natAbs : Nat) ∧ euc (Nat.gcd a.natAbs b.natAbs : Nat) c = (gcd3 a b c : Nat) := by
    intro ha hb hc
    simp only [inR, inRg, Bool.and_eq_true, decide_eq_true_eq] at ha hb hc
    exact ⟨size_abs (by omega), size_abs (by omega), euc_nat _ _, by rw [euc_eq (by omega) (by omega)]; rfl⟩
  have r1 : ∀ z, inRg z (-2000000000) 2000000000 = inR z := fun _ => rfl
  cases ha : inR a
  · simp only [F_iFracValid, G_iFracValid, tr_iFracValid, Fs_iFracValid, G_within, F_divisor, F_size, tr_size, Fs_size, validI, arI, r1, ha, ofTree, okT, okE, evalT, evalE, evsIn, ev, callF, preF, hasF, needs, i0, b0, toI_int, toB_bool, List.getD_cons_zero, List.getD_cons_succ, List.cons_append, List.nil_append, List.replicate, if_true, if_false, Bool.false_eq_true, and_true, true_and, implies_true, forall_const, false_implies, cmpI, Bool.not_true, Bool.not_false, Bool.true_and, Bool.false_and, Bool.and_true, Bool.and_false, reduceIte, List.append_nil, reduceCtorEq]
  · cases hb : inR b
    · simp only [F_iFracValid, G_iFracValid, tr_iFracValid, Fs_iFracValid, G_within, F_divisor, F_size, tr_size, Fs_size, validI, arI, r1, ha, hb, ofTree, okT, okE, evalT, evalE, evsIn, ev, callF, preF, hasF, needs, i0, b0, toI_int, toB_bool, List.getD_cons_zero, List.getD_cons_succ, List.cons_append, List.nil_append, List.replicate, if_true, if_false, Bool.false_eq_true, and_true, true_and, implies_true, forall_const, false_implies, cmpI, Bool.not_true, Bool.not_false, Bool.true_and, Bool.false_and, Bool.and_true, Bool.and_false, reduceIte, List.append_nil, reduceCtorEq]
    · cases hc : inRg c 1 2000000000
      · simp only [F_iFracValid, G_iFracValid, tr_iFracValid, Fs_iFracValid, G_within, F_divisor, F_size, tr_size, Fs_size, validI, arI, r1, ha, hb, hc, ofTree, okT, okE, evalT, evalE, evsIn, ev, callF, preF, hasF, needs, i0, b0, toI_int, toB_bool, List.getD_cons_zero, List.getD_cons_succ, List.cons_append, List.nil_append, List.replicate, if_true, if_false, Bool.false_eq_true, and_true, true_and, implies_true, forall_const, false_implies, cmpI, Bool.not_true, Bool.not_false, Bool.true_and, Bool.false_and, Bool.and_true, Bool.and_false, reduceIte, List.append_nil, reduceCtorEq]
      · obtain ⟨k1, k2, k3, k4⟩ := key ha hb hc
        simp only [F_iFracValid, G_iFracValid, tr_iFracValid, Fs_iFracValid, G_within, F_divisor, F_size, tr_size, Fs_size, validI, arI, r1, ha, hb, hc, k1, k2, k3, k4, ofTree, okT, okE, evalT, evalE, evsIn, ev, callF, preF, hasF, needs, i0, b0, toI_int, toB_bool, List.getD_cons_zero, List.getD_cons_succ, List.cons_append, List.nil_append, List.replicate, if_true, if_false, Bool.false_eq_true, and_true, true_and, implies_true, forall_const, false_implies, cmpI, Bool.not_true, Bool.not_false, Bool.true_and, Bool.false_and, Bool.and_true, Bool.and_false, reduceIte, List.append_nil, reduceCtorEq]
        by_cases h1 : gcd3 a b c = 1
        · simp [h1]
        · have h2 : ((gcd3 a b c : Nat) : Int) ≠ 1 := by omega
          rw [beq_eq_false_iff_ne.2 h2, beq_eq_false_iff_ne.2 h1]
def tr_realOk : Tr :=
  (.evs [.call 0 [(.var 0), (.var 1), (.var 2)] none 1]
  (.ret [(.ite (.var 3) (.cmp .eql (.var 1) (.int .i64 0)) (.bool false))]))
def Fs_realOk : List Fun1 := [G_iFracValid]
def F_realOk : Fun1 := ofTree Fs_realOk tr_realOk
def G_realOk : Fun1 := ⟨fun _ => True, fun ins => [.bool (realQ (q3 ins 0))]⟩
theorem as_realOk (ins : List Value) (ht : TypedL [.int .i64, .int .i64, .int .i64] ins) (_ : G_realOk.pre ins) : F_realOk.pre ins ∧ F_realOk.out ins = G_realOk.out ins := by
  obtain ⟨a, b, c, rfl, wa, wb, wc⟩ := ints3 ht
  simp only [F_realOk, G_realOk, tr_realOk, Fs_realOk, G_iFracValid, realQ, validQ, q3, ofTree, okT, okE, evalT, evalE, evsIn, ev, callF, preF, hasF, needs, i0, b0, toI_int, toB_bool, List.getD_cons_zero, List.getD_cons_succ, List.cons_append, List.nil_append, List.replicate, if_true, if_false, Bool.false_eq_true, and_true, true_and, implies_true, forall_const, false_implies, cmpI, Bool.not_true, Bool.not_false, Bool.true_and, Bool.false_and, Bool.and_true, Bool.and_false, reduceIte, List.append_nil, reduceCtorEq]
  cases h : validI a b c <;> simp [h]
def tr_iFracAdd : Tr :=
  (.evs [.call 0 [(.var 0), (.var 1), (.var 2)] none 1,
    .call 0 [(.var 3), (.var 4), (.var 5)] (some (.not (.not (.var 6)))) 1]
  (.ite (.ite (.not (.var 6)) (.bool true) (.not (.var 7)))
  (.ret [(.int .i64 0), (.int .i64 0), (.int .i64 0), (.bool false)])
  (.evs [.call 1 [(.ar .add .i64 (.ar .mul .i64 (.var 0) (.var 5)) (.ar .mul .i64 (.var 3) (.var 2))), (.ar .add .i64 (.ar .mul .i64 (.var 1) (.var 5)) (.ar .mul .i64 (.var 4) (.var 2))), (.ar .mul .i64 (.var 2) (.var 5))] none 4]
   (.ret [(.var 8), (.var 9), (.var 10), (.var 11)]))))
def Fs_iFracAdd : List Fun1 := [G_iFracValid, G_lowest]
def F_iFracAdd : Fun1 := ofTree Fs_iFracAdd tr_iFracAdd
def G_iFracAdd : Fun1 := ⟨fun _ => True, fun ins => fr4 (addQ (q3 ins 0) (q3 ins 3))⟩
theorem as_iFracAdd (ins : List Value) (ht : TypedL [.int .i64, .int .i64, .int .i64, .int .i64, .int .i64, .int .i64] ins) (_ : G_iFracAdd.pre ins) : F_iFracAdd.pre ins ∧ F_iFracAdd.out ins = G_iFracAdd.out ins := by
  obtain ⟨a, b, c, x, y, z, rfl, _⟩ := ints6 ht
  simp only [F_iFracAdd, G_iFracAdd, tr_iFracAdd, Fs_iFracAdd, G_iFracValid, G_lowest, addQ, validQ, q3, arI, ofTree, okT, okE, evalT, evalE, evsIn, ev, callF, preF, hasF, needs, i0, b0, toI_int, toB_bool, List.getD_cons_zero, List.getD_cons_succ, List.cons_append, List.nil_append, List.replicate, if_true, if_false, Bool.false_eq_true, and_true, true_and, implies_true, forall_const, false_implies, cmpI, Bool.not_true, Bool.not_false, Bool.true_and, Bool.false_and, Bool.and_true, Bool.and_false, reduceIte, List.append_nil, reduceCtorEq]
  cases h : validI a b c
  · simp [h, fr4, zq]
  · cases k : validI x y z
    · simp [h, k, fr4, zq]
    · obtain ⟨e1, e2, e3, e4, e5, e6, e7, e8, e9, l1, l2⟩ := sum_facts h k
      simp only [h, k, e1, e2, e3, e4, e5, e6, e7, ofTree, okT, okE, evalT, evalE, evsIn, ev, callF, preF, hasF, needs, i0, b0, toI_int, toB_bool, List.getD_cons_zero, List.getD_cons_succ, List.cons_append, List.nil_append, List.replicate, if_true, if_false, Bool.false_eq_true, and_true, true_and, implies_true, forall_const, false_implies, cmpI, Bool.not_true, Bool.not_false, Bool.true_and, Bool.false_and, Bool.and_true, Bool.and_false, reduceIte, List.append_nil, reduceCtorEq]
      simp [fr4, l1]
def tr_iFracTimes : Tr :=
  (.evs [.call 0 [(.var 0), (.var 1), (.var 2)] none 1,
    .call 0 [(.var 3), (.var 4), (.var 5)] (some (.not (.not (.var 6)))) 1]
  (.ite (.ite (.not (.var 6)) (.bool true) (.not (.var 7)))
  (.ret [(.int .i64 0), (.int .i64 0), (.int .i64 0), (.bool false)])
  (.evs [.call 1 [(.ar .sub .i64 (.ar .mul .i64 (.var 0) (.var 3)) (.ar .mul .i64 (.var 1) (.var 4))), (.ar .add .i64 (.ar .mul .i64 (.var 0) (.var 4)) (.ar .mul .i64 (.var 1) (.var 3))), (.ar .mul .i64 (.var 2) (.var 5))] none 4]
   (.ret [(.var 8), (.var 9), (.var 10), (.var 11)]))))
def Fs_iFracTimes : List Fun1 := [G_iFracValid, G_lowest]
def F_iFracTimes : Fun1 := ofTree Fs_iFracTimes tr_iFracTimes
def G_iFracTimes : Fun1 := ⟨fun _ => True, fun ins => fr4 (timesQ (q3 ins 0) (q3 ins 3))⟩
theorem as_iFracTimes (ins : List Value) (ht : TypedL [.int .i64, .int .i64, .int .i64, .int .i64, .int .i64, .int .i64] ins) (_ : G_iFracTimes.pre ins) : F_iFracTimes.pre ins ∧ F_iFracTimes.out ins = G_iFracTimes.out ins := by
  obtain ⟨a, b, c, x, y, z, rfl, _⟩ := ints6 ht
  simp only [F_iFracTimes, G_iFracTimes, tr_iFracTimes, Fs_iFracTimes, G_iFracValid, G_lowest, timesQ, validQ, q3, arI, ofTree, okT, okE, evalT, evalE, evsIn, ev, callF, preF, hasF, needs, i0, b0, toI_int, toB_bool, List.getD_cons_zero, List.getD_cons_succ, List.cons_append, List.nil_append, List.replicate, if_true, if_false, Bool.false_eq_true, and_true, true_and, implies_true, forall_const, false_implies, cmpI, Bool.not_true, Bool.not_false, Bool.true_and, Bool.false_and, Bool.and_true, Bool.and_false, reduceIte, List.append_nil, reduceCtorEq]
  cases h : validI a b c
  · simp [h, fr4, zq]
  · cases k : validI x y z
    · simp [h, k, fr4, zq]
    · obtain ⟨e1, e2, e3, e4, e5, e6, e7, l1⟩ := mul_facts h k
      simp only [h, k, e1, e2, e3, e4, e5, e6, e7, ofTree, okT, okE, evalT, evalE, evsIn, ev, callF, preF, hasF, needs, i0, b0, toI_int, toB_bool, List.getD_cons_zero, List.getD_cons_succ, List.cons_append, List.nil_append, List.replicate, if_true, if_false, Bool.false_eq_true, and_true, true_and, implies_true, forall_const, false_implies, cmpI, Bool.not_true, Bool.not_false, Bool.true_and, Bool.false_and, Bool.and_true, Bool.and_false, reduceIte, List.append_nil, reduceCtorEq]
      simp [fr4, l1]
def tr_l2Sum : Tr :=
  (.evs [.call 0 [(.var 0), (.var 1), (.var 2)] none 1,
    .call 0 [(.var 4), (.var 5), (.var 6)] (some (.not (.not (.var 7)))) 1]
  (.ite (.ite (.not (.var 7)) (.bool true) (.not (.var 8)))
  (.ret [(.int .i64 0), (.int .i64 0), (.int .i64 0), (.bool false)])
  (.evs [.call 1 [(.ar .add .i64 (.ar .mul .i64 (.var 0) (.var 6)) (.ar .mul .i64 (.ar .mul .i64 (.var 3) (.var 4)) (.var 2))), (.ar .add .i64 (.ar .mul .i64 (.var 1) (.var 6)) (.ar .mul .i64 (.ar .mul .i64 (.var 3) (.var 5)) (.var 2))), (.ar .mul .i64 (.var 2) (.var 6))] none 4]
   (.ret [(.var 9), (.var 10), (.var 11), (.var 12)]))))
def Fs_l2Sum : List Fun1 := [G_sFracValid, G_l2Low]
def F_l2Sum : Fun1 := ofTree Fs_l2Sum tr_l2Sum
def G_l2Sum : Fun1 := ⟨fun ins => i0 ins 3 = 1 ∨ i0 ins 3 = -1, fun ins => fr4 (if i0 ins 3 = 1 then addQ (q3 ins 0) (q3 ins 4) else lessQ (q3 ins 0) (q3 ins 4))⟩
theorem as_l2Sum (ins : List Value) (ht : TypedL [.int .i64, .int .i64, .int .i64, .int .i64, .int .i64, .int .i64, .int .i64] ins) (hp : G_l2Sum.pre ins) : F_l2Sum.pre ins ∧ F_l2Sum.out ins = G_l2Sum.out ins := by
  obtain ⟨a, r1, rfl, w1, ht1⟩ := int_cons ht
  obtain ⟨b, c, s, x, y, z, rfl, _⟩ := ints6 ht1
  have hs : s = 1 ∨ s = -1 := hp
  clear hp
  cases h : validI a b c
  · rcases hs with rfl | rfl <;>
    · simp only [F_l2Sum, G_l2Sum, tr_l2Sum, Fs_l2Sum, G_sFracValid, G_l2Low, addQ, lessQ, validQ, q3, arI, h, ofTree, okT, okE, evalT, evalE, evsIn, ev, callF, preF, hasF, needs, i0, b0, toI_int, toB_bool, List.getD_cons_zero, List.getD_cons_succ, List.cons_append, List.nil_append, List.replicate, if_true, if_false, Bool.false_eq_true, and_true, true_and, implies_true, forall_const, false_implies, cmpI, Bool.not_true, Bool.not_false, Bool.true_and, Bool.false_and, Bool.and_true, Bool.and_false, reduceIte, List.append_nil, reduceCtorEq]
      simp [fr4, zq]
  · cases k : validI x y z
    · rcases hs with rfl | rfl <;>
      · simp only [F_l2Sum, G_l2Sum, tr_l2Sum, Fs_l2Sum, G_sFracValid, G_l2Low, addQ, lessQ, validQ, q3, arI, h, k, ofTree, okT, okE, evalT, evalE, evsIn, ev, callF, preF, hasF, needs, i0, b0, toI_int, toB_bool, List.getD_cons_zero, List.getD_cons_succ, List.cons_append, List.nil_append, List.replicate, if_true, if_false, Bool.false_eq_true, and_true, true_and, implies_true, forall_const, false_implies, cmpI, Bool.not_true, Bool.not_false, Bool.true_and, Bool.false_and, Bool.and_true, Bool.and_false, reduceIte, List.append_nil, reduceCtorEq]
        simp [fr4, zq]
    · obtain ⟨e1, e2, e3, e4, e5, e6, e7, e8, e9, l1, l2⟩ := sum_facts h k
      obtain ⟨k1, k2, _⟩ := valid_bounds k
      rcases hs with rfl | rfl
      · have u1 : IntKind.i64.wrap (1 * x) = x := by rw [Int.one_mul]; exact wrap_in (by omega)
        have u2 : IntKind.i64.wrap (1 * y) = y := by rw [Int.one_mul]; exact wrap_in (by omega)
        simp only [F_l2Sum, G_l2Sum, tr_l2Sum, Fs_l2Sum, G_sFracValid, G_l2Low, addQ, lessQ, validQ, q3, arI, h, k, u1, u2, e1, e2, e3, e4, e5, e6, e7, ofTree, okT, okE, evalT, evalE, evsIn, ev, callF, preF, hasF, needs, i0, b0, toI_int, toB_bool, List.getD_cons_zero, List.getD_cons_succ, List.cons_append, List.nil_append, List.replicate, if_true, if_false, Bool.false_eq_true, and_true, true_and, implies_true, forall_const, false_implies, cmpI, Bool.not_true, Bool.not_false, Bool.true_and, Bool.false_and, Bool.and_true, Bool.and_false, reduceIte, List.append_nil, reduceCtorEq]
        simp [fr4, l1]
      · have u1 : IntKind.i64.wrap (-1 * x) = -x := by rw [Int.neg_one_mul]; exact wrap_in (by omega)
        have u2 : IntKind.i64.wrap (-1 * y) = -y := by rw [Int.neg_one_mul]; exact wrap_in (by omega)
        have m2 := mulB k1 (b := c) (by have := valid_bounds h; omega)
        have m4 := mulB k2 (b := c) (by have := valid_bounds h; omega)
        have v1 : IntKind.i64.wrap (-x * c) = -(x * c) := by rw [Int.neg_mul]; exact wrap_in (by omega)
        have v2 : IntKind.i64.wrap (-y * c) = -(y * c) := by rw [Int.neg_mul]; exact wrap_in (by omega)
        have v3 : IntKind.i64.wrap (a * z + -(x * c)) = a * z - x * c := by rw [← Int.sub_eq_add_neg]; exact e8
        have v4 : IntKind.i64.wrap (b * z + -(y * c)) = b * z - y * c := by rw [← Int.sub_eq_add_neg]; exact e9
        simp only [F_l2Sum, G_l2Sum, tr_l2Sum, Fs_l2Sum, G_sFracValid, G_l2Low, addQ, lessQ, validQ, q3, arI, h, k, u1, u2, v1, v2, v3, v4, e1, e3, e5, ofTree, okT, okE, evalT, evalE, evsIn, ev, callF, preF, hasF, needs, i0, b0, toI_int, toB_bool, List.getD_cons_zero, List.getD_cons_succ, List.cons_append, List.nil_append, List.replicate, if_true, if_false, Bool.false_eq_true, and_true, true_and, implies_true, forall_const, false_implies, cmpI, Bool.not_true, Bool.not_false, Bool.true_and, Bool.false_and, Bool.and_true, Bool.and_false, reduceIte, List.append_nil, reduceCtorEq]
        simp [fr4, l2]
def tr_sFracAdd : Tr :=
  (.evs [.call 0 [(.var 0), (.var 1), (.var 2), (.int .i64 1), (.var 3), (.var 4), (.var 5)] none 4]
  (.ret [(.var 6), (.var 7), (.var 8), (.var 9)]))
def Fs_sFracAdd : List Fun1 := [G_l2Sum]
def F_sFracAdd : Fun1 := ofTree Fs_sFracAdd tr_sFracAdd
def G_sFracAdd : Fun1 := ⟨fun _ => True, fun ins => fr4 (addQ (q3 ins 0) (q3 ins 3))⟩
theorem as_sFracAdd (ins : List Value) (ht : TypedL [.int .i64, .int .i64, .int .i64, .int .i64, .int .i64, .int .i64] ins) (_ : G_sFracAdd.pre ins) : F_sFracAdd.pre ins ∧ F_sFracAdd.out ins = G_sFracAdd.out ins := by
  obtain ⟨a, b, c, x, y, z, rfl, _⟩ := ints6 ht
  exact ⟨⟨⟨.inl rfl, trivial⟩, trivial⟩, rfl⟩
def tr_sFracTimes : Tr :=
  (.evs [.call 0 [(.var 0), (.var 1), (.var 2)] none 1,
    .call 0 [(.var 3), (.var 4), (.var 5)] (some (.not (.not (.var 6)))) 1]
  (.ite (.ite (.not (.var 6)) (.bool true) (.not (.var 7)))
  (.ret [(.int .i64 0), (.int .i64 0), (.int .i64 0), (.bool false)])
  (.evs [.call 1 [(.ar .sub .i64 (.ar .mul .i64 (.var 0) (.var 3)) (.ar .mul .i64 (.var 1) (.var 4))), (.ar .add .i64 (.ar .mul .i64 (.var 0) (.var 4)) (.ar .mul .i64 (.var 1) (.var 3))), (.ar .mul .i64 (.var 2) (.var 5))] none 4]
   (.ret [(.var 8), (.var 9), (.var 10), (.var 11)]))))
def Fs_sFracTimes : List Fun1 := [G_sFracValid, G_l2Low]
def F_sFracTimes : Fun1 := ofTree Fs_sFracTimes tr_sFracTimes
def G_sFracTimes : Fun1 := ⟨fun _ => True, fun ins => fr4 (timesQ (q3 ins 0) (q3 ins 3))⟩
theorem as_sFracTimes (ins : List Value) (ht : TypedL [.int .i64, .int .i64, .int .i64, .int .i64, .int .i64, .int .i64] ins) (_ : G_sFracTimes.pre ins) : F_sFracTimes.pre ins ∧ F_sFracTimes.out ins = G_sFracTimes.out ins := by
  obtain ⟨a, b, c, x, y, z, rfl, _⟩ := ints6 ht
  simp only [F_sFracTimes, G_sFracTimes, tr_sFracTimes, Fs_sFracTimes, G_sFracValid, G_l2Low, timesQ, validQ, q3, arI, ofTree, okT, okE, evalT, evalE, evsIn, ev, callF, preF, hasF, needs, i0, b0, toI_int, toB_bool, List.getD_cons_zero, List.getD_cons_succ, List.cons_append, List.nil_append, List.replicate, if_true, if_false, Bool.false_eq_true, and_true, true_and, implies_true, forall_const, false_implies, cmpI, Bool.not_true, Bool.not_false, Bool.true_and, Bool.false_and, Bool.and_true, Bool.and_false, reduceIte, List.append_nil, reduceCtorEq]
  cases h : validI a b c
  · simp [h, fr4, zq]
  · cases k : validI x y z
    · simp [h, k, fr4, zq]
    · obtain ⟨e1, e2, e3, e4, e5, e6, e7, l1⟩ := mul_facts h k
      simp only [h, k, e1, e2, e3, e4, e5, e6, e7, ofTree, okT, okE, evalT, evalE, evsIn, ev, callF, preF, hasF, needs, i0, b0, toI_int, toB_bool, List.getD_cons_zero, List.getD_cons_succ, List.cons_append, List.nil_append, List.replicate, if_true, if_false, Bool.false_eq_true, and_true, true_and, implies_true, forall_const, false_implies, cmpI, Bool.not_true, Bool.not_false, Bool.true_and, Bool.false_and, Bool.and_true, Bool.and_false, reduceIte, List.append_nil, reduceCtorEq]
      simp [fr4, l1]
def tr_keep : Tr :=
  (.ite (.not (.var 3))
  (.ret [(.int .i64 0), (.int .i64 0), (.int .i64 0), (.bool true)])
  (.ret [(.var 0), (.var 1), (.var 2), (.var 4)]))
def Fs_keep : List Fun1 := []
def F_keep : Fun1 := ofTree Fs_keep tr_keep
def tr_add : Tr :=
  (.evs [.call 0 [(.var 0), (.var 1), (.var 2), (.var 3), (.var 4), (.var 5)] none 4,
    .call 1 [(.var 7), (.var 8), (.var 9), (.var 10), (.var 6)] none 4]
  (.ret [(.var 11), (.var 12), (.var 13), (.var 14)]))
def Fs_add : List Fun1 := [G_iFracAdd, F_keep]
def F_add : Fun1 := ofTree Fs_add tr_add
def G_add : Fun1 := ⟨fun _ => True, fun ins => fr3 (addQ (q3 ins 0) (q3 ins 3)) ++ [.bool (b0 ins 6 || !(addQ (q3 ins 0) (q3 ins 3)).isSome)]⟩
theorem as_add (ins : List Value) (ht : TypedL [.int .i64, .int .i64, .int .i64, .int .i64, .int .i64, .int .i64, .bool] ins) (_ : G_add.pre ins) : F_add.pre ins ∧ F_add.out ins = G_add.out ins := by
  obtain ⟨a, r1, rfl, _, ht1⟩ := int_cons ht
  obtain ⟨b, r2, rfl, _, ht2⟩ := int_cons ht1
  obtain ⟨c, r3, rfl, _, ht3⟩ := int_cons ht2
  obtain ⟨x, r4, rfl, _, ht4⟩ := int_cons ht3
  obtain ⟨y, r5, rfl, _, ht5⟩ := int_cons ht4
  obtain ⟨z, r6, rfl, _, ht6⟩ := int_cons ht5
  obtain ⟨t, r7, rfl, ht7⟩ := bool_cons ht6
  obtain rfl := ints0 ht7
  simp only [F_add, G_add, tr_add, Fs_add, G_iFracAdd, F_keep, tr_keep, Fs_keep, q3, fr4, fr3, ofTree, okT, okE, evalT, evalE, evsIn, ev, callF, preF, hasF, needs, i0, b0, toI_int, toB_bool, List.getD_cons_zero, List.getD_cons_succ, List.cons_append, List.nil_append, List.replicate, if_true, if_false, Bool.false_eq_true, and_true, true_and, implies_true, forall_const, false_implies, cmpI, Bool.not_true, Bool.not_false, Bool.true_and, Bool.false_and, Bool.and_true, Bool.and_false, reduceIte, List.append_nil, reduceCtorEq]
  cases h : addQ (a, b, c) (x, y, z) <;> simp [zq]
def tr_times : Tr :=
  (.evs [.call 0 [(.var 0), (.var 1), (.var 2), (.var 3), (.var 4), (.var 5)] none 4,
    .call 1 [(.var 7), (.var 8), (.var 9), (.var 10), (.var 6)] none 4]
  (.ret [(.var 11), (.var 12), (.var 13), (.var 14)]))
def Fs_times : List Fun1 := [G_iFracTimes, F_keep]
def F_times : Fun1 := ofTree Fs_times tr_times
def G_times : Fun1 := ⟨fun _ => True, fun ins => fr3 (timesQ (q3 ins 0) (q3 ins 3)) ++ [.bool (b0 ins 6 || !(timesQ (q3 ins 0) (q3 ins 3)).isSome)]⟩
theorem as_times (ins : List Value) (ht : TypedL [.int .i64, .int .i64, .int .i64, .int .i64, .int .i64, .int .i64, .bool] ins) (_ : G_times.pre ins) : F_times.pre ins ∧ F_times.out ins = G_times.out ins := by
  obtain ⟨a, r1, rfl, _, ht1⟩ := int_cons ht
  obtain ⟨b, r2, rfl, _, ht2⟩ := int_cons ht1
  obtain ⟨c, r3, rfl, _, ht3⟩ := int_cons ht2
  obtain ⟨x, r4, rfl, _, ht4⟩ := int_cons ht3
  obtain ⟨y, r5, rfl, _, ht5⟩ := int_cons ht4
  obtain ⟨z, r6, rfl, _, ht6⟩ := int_cons ht5
  obtain ⟨t, r7, rfl, ht7⟩ := bool_cons ht6
  obtain rfl := ints0 ht7
  simp only [F_times, G_times, tr_times, Fs_times, G_iFracTimes, F_keep, tr_keep, Fs_keep, q3, fr4, fr3, ofTree, okT, okE, evalT, evalE, evsIn, ev, callF, preF, hasF, needs, i0, b0, toI_int, toB_bool, List.getD_cons_zero, List.getD_cons_succ, List.cons_append, List.nil_append, List.replicate, if_true, if_false, Bool.false_eq_true, and_true, true_and, implies_true, forall_const, false_implies, cmpI, Bool.not_true, Bool.not_false, Bool.true_and, Bool.false_and, Bool.and_true, Bool.and_false, reduceIte, List.append_nil, reduceCtorEq]
  cases h : timesQ (a, b, c) (x, y, z) <;> simp [zq]
def tr_need : Tr :=
  (.ite (.not (.var 0))
  (.ret [(.bool true)])
  (.ret [(.var 1)]))
def Fs_need : List Fun1 := []
def F_need : Fun1 := ofTree Fs_need tr_need
def G_need : Fun1 := ⟨fun _ => True, fun ins => [.bool (b0 ins 1 || !b0 ins 0)]⟩
theorem as_need (ins : List Value) (ht : TypedL [.bool, .bool] ins) (_ : G_need.pre ins) : F_need.pre ins ∧ F_need.out ins = G_need.out ins := by
  obtain ⟨s, r1, rfl, ht1⟩ := bool_cons ht
  obtain ⟨t, r2, rfl, ht2⟩ := bool_cons ht1
  obtain rfl := ints0 ht2
  simp only [F_need, G_need, tr_need, Fs_need, ofTree, okT, okE, evalT, evalE, evsIn, ev, callF, preF, hasF, needs, i0, b0, toI_int, toB_bool, List.getD_cons_zero, List.getD_cons_succ, List.cons_append, List.nil_append, List.replicate, if_true, if_false, Bool.false_eq_true, and_true, true_and, implies_true, forall_const, false_implies, cmpI, Bool.not_true, Bool.not_false, Bool.true_and, Bool.false_and, Bool.and_true, Bool.and_false, reduceIte, List.append_nil, reduceCtorEq]
  cases s <;> cases t <;> simp
def tr_l6tAdd : Tr :=
  (.evs [.call 0 [(.var 0), (.var 1), (.var 2), (.var 3), (.var 4), (.var 5), (.var 6)] none 4]
  (.ret [(.var 8), (.var 9), (.var 10), (.ite (.var 7) (.var 11) (.bool false))]))
def Fs_l6tAdd : List Fun1 := [G_l2Sum]
def F_l6tAdd : Fun1 := ofTree Fs_l6tAdd tr_l6tAdd
def signQ (s : Int) (a b : Q) : Option Q := if s = 1 then addQ a b else lessQ a b
def G_l6tAdd : Fun1 := ⟨fun ins => i0 ins 3 = 1 ∨ i0 ins 3 = -1, fun ins => fr3 (signQ (i0 ins 3) (q3 ins 0) (q3 ins 4)) ++ [.bool (b0 ins 7 && (signQ (i0 ins 3) (q3 ins 0) (q3 ins 4)).isSome)]⟩
theorem as_l6tAdd (ins : List Value) (ht : TypedL [.int .i64, .int .i64, .int .i64, .int .i64, .int .i64, .int .i64, .int .i64, .bool] ins) (hp : G_l6tAdd.pre ins) : F_l6tAdd.pre ins ∧ F_l6tAdd.out ins = G_l6tAdd.out ins := by
  obtain ⟨a, r1, rfl, _, ht1⟩ := int_cons ht
  obtain ⟨b, r2, rfl, _, ht2⟩ := int_cons ht1
  obtain ⟨c, r3, rfl, _, ht3⟩ := int_cons ht2
  obtain ⟨s, r4, rfl, _, ht4⟩ := int_cons ht3
  obtain ⟨x, r5, rfl, _, ht5⟩ := int_cons ht4
  obtain ⟨y, r6, rfl, _, ht6⟩ := int_cons ht5
  obtain ⟨z, r7, rfl, _, ht7⟩ := int_cons ht6
  obtain ⟨t, r8, rfl, ht8⟩ := bool_cons ht7
  obtain rfl := ints0 ht8
  have hp : s = 1 ∨ s = -1 := hp
  refine ⟨⟨⟨hp, trivial⟩, trivial⟩, ?_⟩
  simp only [F_l6tAdd, G_l6tAdd, tr_l6tAdd, Fs_l6tAdd, G_l2Sum, signQ, q3, fr4, fr3, ofTree, okT, okE, evalT, evalE, evsIn, ev, callF, preF, hasF, needs, i0, b0, toI_int, toB_bool, List.getD_cons_zero, List.getD_cons_succ, List.cons_append, List.nil_append, List.replicate, if_true, if_false, Bool.false_eq_true, and_true, true_and, implies_true, forall_const, false_implies, cmpI, Bool.not_true, Bool.not_false, Bool.true_and, Bool.false_and, Bool.and_true, Bool.and_false, reduceIte, List.append_nil, reduceCtorEq]
  cases t <;> simp
def tr_eqFrac : Tr :=
  (.ite (.cmp .neq (.var 0) (.var 3))
  (.ret [(.bool false)])
  (.ite (.cmp .neq (.var 1) (.var 4))
   (.ret [(.bool false)])
   (.ite (.cmp .neq (.var 2) (.var 5))
    (.ret [(.bool false)])
    (.ret [(.bool true)]))))
def Fs_eqFrac : List Fun1 := []
def F_eqFrac : Fun1 := ofTree Fs_eqFrac tr_eqFrac
def eqQ (a b : Q) : Bool := a.1 == b.1 && (a.2.1 == b.2.1 && a.2.2 == b.2.2)
def G_eqFrac : Fun1 := ⟨fun _ => True, fun ins => [.bool (eqQ (q3 ins 0) (q3 ins 3))]⟩
theorem as_eqFrac (ins : List Value) (ht : TypedL [.int .i64, .int .i64, .int .i64, .int .i64, .int .i64, .int .i64] ins) (_ : G_eqFrac.pre ins) : F_eqFrac.pre ins ∧ F_eqFrac.out ins = G_eqFrac.out ins := by
  obtain ⟨a, b, c, x, y, z, rfl, _⟩ := ints6 ht
  refine ⟨okT_free (fun F hF => by cases hF) _ _ (by kernel_rfl), ?_⟩
  simp only [F_eqFrac, G_eqFrac, tr_eqFrac, Fs_eqFrac, eqQ, q3, ofTree, okT, okE, evalT, evalE, evsIn, ev, callF, preF, hasF, needs, i0, b0, toI_int, toB_bool, List.getD_cons_zero, List.getD_cons_succ, List.cons_append, List.nil_append, List.replicate, if_true, if_false, Bool.false_eq_true, and_true, true_and, implies_true, forall_const, false_implies, cmpI, Bool.not_true, Bool.not_false, Bool.true_and, Bool.false_and, Bool.and_true, Bool.and_false, reduceIte, List.append_nil, reduceCtorEq]
  cases h1 : (a == x) <;> cases h2 : (b == y) <;> cases h3 : (c == z) <;> simp [bne, h1, h2, h3]
def tr_eqFracA16 : Tr :=
  (.evs [.call 0 [(.var 0), (.var 1), (.var 2), (.var 48), (.var 49), (.var 50)] none 1]
  (.ite (.not (.var 96))
  (.ret [(.bool false)])
  (.evs [.call 0 [(.var 3), (.var 4), (.var 5), (.var 51), (.var 52), (.var 53)] none 1]
   (.ite (.not (.var 97))
   (.ret [(.bool false)])
   (.evs [.call 0 [(.var 6), (.var 7), (.var 8), (.var 54), (.var 55), (.var 56)] none 1]
    (.ite (.not (.var 98))
    (.ret [(.bool false)])
    (.evs [.call 0 [(.var 9), (.var 10), (.var 11), (.var 57), (.var 58), (.var 59)] none 1]
     (.ite (.not (.var 99))
     (.ret [(.bool false)])
     (.evs [.call 0 [(.var 12), (.var 13), (.var 14), (.var 60), (.var 61), (.var 62)] none 1]
      (.ite (.not (.var 100))
      (.ret [(.bool false)])
      (.evs [.call 0 [(.var 15), (.var 16), (.var 17), (.var 63), (.var 64), (.var 65)] none 1]
       (.ite (.not (.var 101))
       (.ret [(.bool false)])
       (.evs [.call 0 [(.var 18), (.var 19), (.var 20), (.var 66), (.var 67), (.var 68)] none 1]
        (.ite (.not (.var 102))
        (.ret [(.bool false)])
        (.evs [.call 0 [(.var 21), (.var 22), (.var 23), (.var 69), (.var 70), (.var 71)] none 1]
         (.ite (.not (.var 103))
         (.ret [(.bool false)])
         (.evs [.call 0 [(.var 24), (.var 25), (.var 26), (.var 72), (.var 73), (.var 74)] none 1]
          (.ite (.not (.var 104))
          (.ret [(.bool false)])
          (.evs [.call 0 [(.var 27), (.var 28), (.var 29), (.var 75), (.var 76), (.var 77)] none 1]
           (.ite (.not (.var 105))
           (.ret [(.bool false)])
           (.evs [.call 0 [(.var 30), (.var 31), (.var 32), (.var 78), (.var 79), (.var 80)] none 1]
            (.ite (.not (.var 106))
            (.ret [(.bool false)])
            (.evs [.call 0 [(.var 33), (.var 34), (.var 35), (.var 81), (.var 82), (.var 83)] none 1]
             (.ite (.not (.var 107))
             (.ret [(.bool false)])
             (.evs [.call 0 [(.var 36), (.var 37), (.var 38), (.var 84), (.var 85), (.var 86)] none 1]
              (.ite (.not (.var 108))
              (.ret [(.bool false)])
              (.evs [.call 0 [(.var 39), (.var 40), (.var 41), (.var 87), (.var 88), (.var 89)] none 1]
               (.ite (.not (.var 109))
               (.ret [(.bool false)])
               (.evs [.call 0 [(.var 42), (.var 43), (.var 44), (.var 90), (.var 91), (.var 92)] none 1]
                (.ite (.not (.var 110))
                (.ret [(.bool false)])
                (.evs [.call 0 [(.var 45), (.var 46), (.var 47), (.var 93), (.var 94), (.var 95)] none 1]
                 (.ite (.not (.var 111))
                 (.ret [(.bool false)])
                 (.ret [(.bool true)])))))))))))))))))))))))))))))))))
def Fs_eqFracA16 : List Fun1 := [G_eqFrac]
def F_eqFracA16 : Fun1 := ofTree Fs_eqFracA16 tr_eqFracA16
def G_eqFracA16 : Fun1 := ⟨fun _ => True, fun ins => [.bool (allB (fun k => eqQ (q3 ins (3 * k)) (q3 ins (48 + 3 * k))) 0 16)]⟩
theorem out_eqFracA16 : (fun (g : Nat → Int) => F_eqFracA16.out (ivs g 0 96)) = fun g => nestC (fun k => .bool (!eqQ (q3 (ivs g 0 96) (3 * k)) (q3 (ivs g 0 96) (48 + 3 * k)))) 0 16 := by kernel_rfl
theorem as_eqFracA16 (ins : List Value) (ht : TypedL (intTs 96 ++ []) ins) (_ : G_eqFracA16.pre ins) : F_eqFracA16.pre ins ∧ F_eqFracA16.out ins = G_eqFracA16.out ins := by
  obtain ⟨g, r, rfl, h1, _⟩ := ints_lit 96 0 ht
  obtain rfl := ints0 h1
  rw [List.append_nil]
  refine ⟨okT_free (by intro F hF ins; simp only [Fs_eqFracA16, List.mem_singleton] at hF; rw [hF]; trivial) _ _ (by kernel_rfl), (congrFun out_eqFracA16 g).trans ?_⟩
  exact nestC_eq (fun k => rfl) 16 0
def tr_eqTable : Tr :=
  (.evs [.call 0 [(.var 0), (.var 1), (.var 2), (.var 3), (.var 4), (.var 5), (.var 6), (.var 7), (.var 8), (.var 9), (.var 10), (.var 11), (.var 12), (.var 13), (.var 14), (.var 15), (.var 16), (.var 17), (.var 18), (.var 19), (.var 20), (.var 21), (.var 22), (.var 23), (.var 24), (.var 25), (.var 26), (.var 27), (.var 28), (.var 29), (.var 30), (.var 31), (.var 32), (.var 33), (.var 34), (.var 35), (.var 36), (.var 37), (.var 38), (.var 39), (.var 40), (.var 41), (.var 42), (.var 43), (.var 44), (.var 45), (.var 46), (.var 47), (.var 48), (.var 49), (.var 50), (.var 51), (.var 52), (.var 53), (.var 54), (.var 55), (.var 56), (.var 57), (.var 58), (.var 59), (.var 60), (.var 61), (.var 62), (.var 63), (.var 64), (.var 65), (.var 66), (.var 67), (.var 68), (.var 69), (.var 70), (.var 71), (.var 72), (.var 73), (.var 74), (.var 75), (.var 76), (.var 77), (.var 78), (.var 79), (.var 80), (.var 81), (.var 82), (.var 83), (.var 84), (.var 85), (.var 86), (.var 87), (.var 88), (.var 89), (.var 90), (.var 91), (.var 92), (.var 93), (.var 94), (.var 95)] none 1]
  (.ite (.not (.var 96))
  (.ret [(.bool false)])
  (.ret [(.bool true)])))
def Fs_eqTable : List Fun1 := [G_eqFracA16]
def F_eqTable : Fun1 := ofTree Fs_eqTable tr_eqTable
def G_eqTable : Fun1 := G_eqFracA16
theorem out_eqTable : (fun (g : Nat → Int) => F_eqTable.out (ivs g 0 96)) = fun g => nestC (fun _ => .bool (!allB (fun k => eqQ (q3 (ivs g 0 96) (3 * k)) (q3 (ivs g 0 96) (48 + 3 * k))) 0 16)) 0 1 := by kernel_rfl
theorem as_eqTable (ins : List Value) (ht : TypedL (intTs 96 ++ []) ins) (_ : G_eqTable.pre ins) : F_eqTable.pre ins ∧ F_eqTable.out ins = G_eqTable.out ins := by
  obtain ⟨g, r, rfl, h1, _⟩ := ints_lit 96 0 ht
  obtain rfl := ints0 h1
  rw [List.append_nil]
  refine ⟨okT_free (by intro F hF ins; simp only [Fs_eqTable, List.mem_singleton] at hF; rw [hF]; trivial) _ _ (by kernel_rfl), (congrFun out_eqTable g).trans ?_⟩
  rw [nestC_eq (p := fun _ => allB (fun k => eqQ (q3 (ivs g 0 96) (3 * k)) (q3 (ivs g 0 96) (48 + 3 * k))) 0 16) (fun k => rfl) 1 0]
  exact congrArg (fun b => [Value.bool b]) (Bool.and_true _)
def tr_iTableValid : Tr :=
  (.evs [.call 0 [(.var 0), (.var 1), (.var 2)] none 1]
  (.ite (.not (.var 48))
  (.ret [(.bool false)])
  (.evs [.call 0 [(.var 3), (.var 4), (.var 5)] none 1]
   (.ite (.not (.var 49))
   (.ret [(.bool false)])
   (.evs [.call 0 [(.var 6), (.var 7), (.var 8)] none 1]
    (.ite (.not (.var 50))
    (.ret [(.bool false)])
    (.evs [.call 0 [(.var 9), (.var 10), (.var 11)] none 1]
     (.ite (.not (.var 51))
     (.ret [(.bool false)])
     (.evs [.call 0 [(.var 12), (.var 13), (.var 14)] none 1]
      (.ite (.not (.var 52))
      (.ret [(.bool false)])
      (.evs [.call 0 [(.var 15), (.var 16), (.var 17)] none 1]
       (.ite (.not (.var 53))
       (.ret [(.bool false)])
       (.evs [.call 0 [(.var 18), (.var 19), (.var 20)] none 1]
        (.ite (.not (.var 54))
        (.ret [(.bool false)])
        (.evs [.call 0 [(.var 21), (.var 22), (.var 23)] none 1]
         (.ite (.not (.var 55))
         (.ret [(.bool false)])
         (.evs [.call 0 [(.var 24), (.var 25), (.var 26)] none 1]
          (.ite (.not (.var 56))
          (.ret [(.bool false)])
          (.evs [.call 0 [(.var 27), (.var 28), (.var 29)] none 1]
           (.ite (.not (.var 57))
           (.ret [(.bool false)])
           (.evs [.call 0 [(.var 30), (.var 31), (.var 32)] none 1]
            (.ite (.not (.var 58))
            (.ret [(.bool false)])
            (.evs [.call 0 [(.var 33), (.var 34), (.var 35)] none 1]
             (.ite (.not (.var 59))
             (.ret [(.bool false)])
             (.evs [.call 0 [(.var 36), (.var 37), (.var 38)] none 1]
              (.ite (.not (.var 60))
              (.ret [(.bool false)])
              (.evs [.call 0 [(.var 39), (.var 40), (.var 41)] none 1]
               (.ite (.not (.var 61))
               (.ret [(.bool false)])
               (.evs [.call 0 [(.var 42), (.var 43), (.var 44)] none 1]
                (.ite (.not (.var 62))
                (.ret [(.bool false)])
                (.evs [.call 0 [(.var 45), (.var 46), (.var 47)] none 1]
                 (.ite (.not (.var 63))
                 (.ret [(.bool false)])
                 (.ret [(.bool true)])))))))))))))))))))))))))))))))))
def Fs_iTableValid : List Fun1 := [G_realOk]
def F_iTableValid : Fun1 := ofTree Fs_iTableValid tr_iTableValid
def G_iTableValid : Fun1 := ⟨fun _ => True, fun ins => [.bool (tabQ fun k => q3 ins (3 * k))]⟩
theorem out_iTableValid : (fun (g : Nat → Int) => F_iTableValid.out (ivs g 0 48)) = fun g => nestC (fun k => .bool (!realQ (q3 (ivs g 0 48) (3 * k)))) 0 16 := by kernel_rfl
theorem as_iTableValid (ins : List Value) (ht : TypedL (intTs 48 ++ []) ins) (_ : G_iTableValid.pre ins) : F_iTableValid.pre ins ∧ F_iTableValid.out ins = G_iTableValid.out ins := by
  obtain ⟨g, r, rfl, h1, _⟩ := ints_lit 48 0 ht
  obtain rfl := ints0 h1
  rw [List.append_nil]
  refine ⟨okT_free (by intro F hF ins; simp only [Fs_iTableValid, List.mem_singleton] at hF; rw [hF]; trivial) _ _ (by kernel_rfl), (congrFun out_iTableValid g).trans ?_⟩
  exact nestC_eq (fun k => rfl) 16 0
def tr_sTableValid : Tr :=
  (.evs [.call 0 [(.var 0), (.var 1), (.var 2)] none 1]
  (.ite (.ite (.not (.var 48)) (.bool true) (.cmp .neq (.var 1) (.int .i64 0)))
  (.ret [(.bool false)])
  (.evs [.call 0 [(.var 3), (.var 4), (.var 5)] none 1]
   (.ite (.ite (.not (.var 49)) (.bool true) (.cmp .neq (.var 4) (.int .i64 0)))
   (.ret [(.bool false)])
   (.evs [.call 0 [(.var 6), (.var 7), (.var 8)] none 1]
    (.ite (.ite (.not (.var 50)) (.bool true) (.cmp .neq (.var 7) (.int .i64 0)))
    (.ret [(.bool false)])
    (.evs [.call 0 [(.var 9), (.var 10), (.var 11)] none 1]
     (.ite (.ite (.not (.var 51)) (.bool true) (.cmp .neq (.var 10) (.int .i64 0)))
     (.ret [(.bool false)])
     (.evs [.call 0 [(.var 12), (.var 13), (.var 14)] none 1]
      (.ite (.ite (.not (.var 52)) (.bool true) (.cmp .neq (.var 13) (.int .i64 0)))
      (.ret [(.bool false)])
      (.evs [.call 0 [(.var 15), (.var 16), (.var 17)] none 1]
       (.ite (.ite (.not (.var 53)) (.bool true) (.cmp .neq (.var 16) (.int .i64 0)))
       (.ret [(.bool false)])
       (.evs [.call 0 [(.var 18), (.var 19), (.var 20)] none 1]
        (.ite (.ite (.not (.var 54)) (.bool true) (.cmp .neq (.var 19) (.int .i64 0)))
        (.ret [(.bool false)])
        (.evs [.call 0 [(.var 21), (.var 22), (.var 23)] none 1]
         (.ite (.ite (.not (.var 55)) (.bool true) (.cmp .neq (.var 22) (.int .i64 0)))
         (.ret [(.bool false)])
         (.evs [.call 0 [(.var 24), (.var 25), (.var 26)] none 1]
          (.ite (.ite (.not (.var 56)) (.bool true) (.cmp .neq (.var 25) (.int .i64 0)))
          (.ret [(.bool false)])
          (.evs [.call 0 [(.var 27), (.var 28), (.var 29)] none 1]
           (.ite (.ite (.not (.var 57)) (.bool true) (.cmp .neq (.var 28) (.int .i64 0)))
           (.ret [(.bool false)])
           (.evs [.call 0 [(.var 30), (.var 31), (.var 32)] none 1]
            (.ite (.ite (.not (.var 58)) (.bool true) (.cmp .neq (.var 31) (.int .i64 0)))
            (.ret [(.bool false)])
            (.evs [.call 0 [(.var 33), (.var 34), (.var 35)] none 1]
             (.ite (.ite (.not (.var 59)) (.bool true) (.cmp .neq (.var 34) (.int .i64 0)))
             (.ret [(.bool false)])
             (.evs [.call 0 [(.var 36), (.var 37), (.var 38)] none 1]
              (.ite (.ite (.not (.var 60)) (.bool true) (.cmp .neq (.var 37) (.int .i64 0)))
              (.ret [(.bool false)])
              (.evs [.call 0 [(.var 39), (.var 40), (.var 41)] none 1]
               (.ite (.ite (.not (.var 61)) (.bool true) (.cmp .neq (.var 40) (.int .i64 0)))
               (.ret [(.bool false)])
               (.evs [.call 0 [(.var 42), (.var 43), (.var 44)] none 1]
                (.ite (.ite (.not (.var 62)) (.bool true) (.cmp .neq (.var 43) (.int .i64 0)))
                (.ret [(.bool false)])
                (.evs [.call 0 [(.var 45), (.var 46), (.var 47)] none 1]
                 (.ite (.ite (.not (.var 63)) (.bool true) (.cmp .neq (.var 46) (.int .i64 0)))
                 (.ret [(.bool false)])
                 (.ret [(.bool true)])))))))))))))))))))))))))))))))))
def Fs_sTableValid : List Fun1 := [G_sFracValid]
def F_sTableValid : Fun1 := ofTree Fs_sTableValid tr_sTableValid
def G_sTableValid : Fun1 := ⟨fun _ => True, fun ins => [.bool (allB (fun k => realQ (q3 ins (3 * k))) 0 16)]⟩
theorem out_sTableValid : (fun (g : Nat → Int) => F_sTableValid.out (ivs g 0 48)) = fun g => nestC (fun k => if toB (.bool (!validQ (q3 (ivs g 0 48) (3 * k)))) = true then .bool true else .bool (i0 (ivs g 0 48) (3 * k + 1) != 0)) 0 16 := by kernel_rfl
theorem as_sTableValid (ins : List Value) (ht : TypedL (intTs 48 ++ []) ins) (_ : G_sTableValid.pre ins) : F_sTableValid.pre ins ∧ F_sTableValid.out ins = G_sTableValid.out ins := by
  obtain ⟨g, r, rfl, h1, _⟩ := ints_lit 48 0 ht
  obtain rfl := ints0 h1
  rw [List.append_nil]
  refine ⟨okT_free (by intro F hF ins; simp only [Fs_sTableValid, List.mem_singleton] at hF; rw [hF]; trivial) _ _ (by kernel_rfl), (congrFun out_sTableValid g).trans ?_⟩
  refine nestC_eq (fun k => ?_) 16 0
  simp only [toB_bool, realQ, q3]
  by_cases h : validQ (i0 (ivs g 0 48) (3 * k), i0 (ivs g 0 48) (3 * k + 1), i0 (ivs g 0 48) (3 * k + 2)) = true <;> simp [bne, h]
def tr_gotTable : Tr :=
  (.ite (.var 48)
  (.ret [(.int .i64 0), (.int .i64 0), (.int .i64 0), (.int .i64 0), (.int .i64 0), (.int .i64 0), (.int .i64 0), (.int .i64 0), (.int .i64 0), (.int .i64 0), (.int .i64 0), (.int .i64 0), (.int .i64 0), (.int .i64 0), (.int .i64 0), (.int .i64 0), (.int .i64 0), (.int .i64 0), (.int .i64 0), (.int .i64 0), (.int .i64 0), (.int .i64 0), (.int .i64 0), (.int .i64 0), (.int .i64 0), (.int .i64 0), (.int .i64 0), (.int .i64 0), (.int .i64 0), (.int .i64 0), (.int .i64 0), (.int .i64 0), (.int .i64 0), (.int .i64 0), (.int .i64 0), (.int .i64 0), (.int .i64 0), (.int .i64 0), (.int .i64 0), (.int .i64 0), (.int .i64 0), (.int .i64 0), (.int .i64 0), (.int .i64 0), (.int .i64 0), (.int .i64 0), (.int .i64 0), (.int .i64 0), (.bool false), (.var 48)])
  (.ret [(.var 0), (.var 1), (.var 2), (.var 3), (.var 4), (.var 5), (.var 6), (.var 7), (.var 8), (.var 9), (.var 10), (.var 11), (.var 12), (.var 13), (.var 14), (.var 15), (.var 16), (.var 17), (.var 18), (.var 19), (.var 20), (.var 21), (.var 22), (.var 23), (.var 24), (.var 25), (.var 26), (.var 27), (.var 28), (.var 29), (.var 30), (.var 31), (.var 32), (.var 33), (.var 34), (.var 35), (.var 36), (.var 37), (.var 38), (.var 39), (.var 40), (.var 41), (.var 42), (.var 43), (.var 44), (.var 45), (.var 46), (.var 47), (.bool true), (.var 48)]))
def Fs_gotTable : List Fun1 := []
def F_gotTable : Fun1 := ofTree Fs_gotTable tr_gotTable
def G_gotTable : Fun1 := ⟨fun _ => True, fun ins => gotV (b0 ins 48) ins 0 48 ++ [.bool (!b0 ins 48), .bool (b0 ins 48)]⟩
theorem out_gotTable : (fun (g : Nat → Int) => F_gotTable.out (ivs g 0 48 ++ [.bool true])) = fun g => G_gotTable.out (ivs g 0 48 ++ [.bool true]) := by kernel_rfl
theorem out_gotTable' : (fun (g : Nat → Int) => F_gotTable.out (ivs g 0 48 ++ [.bool false])) = fun g => G_gotTable.out (ivs g 0 48 ++ [.bool false]) := by kernel_rfl
theorem as_gotTable (ins : List Value) (ht : TypedL (intTs 48 ++ [.bool]) ins) (_ : G_gotTable.pre ins) : F_gotTable.pre ins ∧ F_gotTable.out ins = G_gotTable.out ins := by
  obtain ⟨g, r, rfl, h1, _⟩ := ints_lit 48 0 ht
  obtain ⟨b, r2, rfl, h2⟩ := bool_cons h1
  obtain rfl := ints0 h2
  cases b
  · exact ⟨trivial, congrFun out_gotTable' g⟩
  · exact ⟨trivial, congrFun out_gotTable g⟩
def tr_l6tOf0 : Tr :=
  (.ret [(.var 0), (.var 1), (.var 2), (.var 3), (.var 4), (.var 5), (.var 6), (.var 7), (.var 8), (.var 9), (.var 10), (.var 11)])
def Fs_l6tOf0 : List Fun1 := []
def F_l6tOf0 : Fun1 := ofTree Fs_l6tOf0 tr_l6tOf0
def tr_l6tOf1 : Tr :=
  (.ret [(.var 12), (.var 13), (.var 14), (.var 15), (.var 16), (.var 17), (.var 18), (.var 19), (.var 20), (.var 21), (.var 22), (.var 23)])
def Fs_l6tOf1 : List Fun1 := []
def F_l6tOf1 : Fun1 := ofTree Fs_l6tOf1 tr_l6tOf1
def tr_l6tOf2 : Tr :=
  (.ret [(.var 24), (.var 25), (.var 26), (.var 27), (.var 28), (.var 29), (.var 30), (.var 31), (.var 32), (.var 33), (.var 34), (.var 35)])
def Fs_l6tOf2 : List Fun1 := []
def F_l6tOf2 : Fun1 := ofTree Fs_l6tOf2 tr_l6tOf2
def tr_l6tOf3 : Tr :=
  (.ret [(.var 36), (.var 37), (.var 38), (.var 39), (.var 40), (.var 41), (.var 42), (.var 43), (.var 44), (.var 45), (.var 46), (.var 47)])
def Fs_l6tOf3 : List Fun1 := []
def F_l6tOf3 : Fun1 := ofTree Fs_l6tOf3 tr_l6tOf3
def tr_l6tRow : Tr :=
  (.evs [.call 0 [(.var 0), (.var 1), (.var 2), (.var 12), (.var 13), (.var 14)] none 4]
  (.evs [.call 1 [(.int .i64 0), (.int .i64 0), (.int .i64 1), (.int .i64 1), (.var 25), (.var 26), (.var 27), (.ite (.var 24) (.var 28) (.bool false))] none 4]
  (.evs [.call 0 [(.var 3), (.var 4), (.var 5), (.var 15), (.var 16), (.var 17)] none 4]
  (.evs [.call 1 [(.var 29), (.var 30), (.var 31), (.int .i64 1), (.var 33), (.var 34), (.var 35), (.ite (.var 32) (.var 36) (.bool false))] none 4]
  (.evs [.call 0 [(.var 6), (.var 7), (.var 8), (.var 18), (.var 19), (.var 20)] none 4]
  (.evs [.call 1 [(.var 37), (.var 38), (.var 39), (.int .i64 1), (.var 41), (.var 42), (.var 43), (.ite (.var 40) (.var 44) (.bool false))] none 4]
  (.evs [.call 0 [(.var 9), (.var 10), (.var 11), (.var 21), (.var 22), (.var 23)] none 4]
  (.evs [.call 1 [(.var 45), (.var 46), (.var 47), (.int .i64 1), (.var 49), (.var 50), (.var 51), (.ite (.var 48) (.var 52) (.bool false))] none 4]
  (.ret [(.var 53), (.var 54), (.var 55), (.var 56)])))))))))
def Fs_l6tRow : List Fun1 := [G_sFracTimes, G_l6tAdd]
def F_l6tRow : Fun1 := ofTree Fs_l6tRow tr_l6tRow
def G_l6tRow : Fun1 := ⟨fun _ => True, fun ins => fl3 [(cellS' (fun k => q3 ins (3 * k)) (fun k => q3 ins (12 + 3 * k)) (b0 ins 24)).1] ++ [.bool (cellS' (fun k => q3 ins (3 * k)) (fun k => q3 ins (12 + 3 * k)) (b0 ins 24)).2]⟩
theorem out_l6tRow : (fun (g : Nat → Int) (s : Bool) => F_l6tRow.out (ivs g 0 24 ++ [.bool s])) = fun g s => G_l6tRow.out (ivs g 0 24 ++ [.bool s]) := by kernel_rfl
theorem as_l6tRow (ins : List Value) (ht : TypedL (intTs 24 ++ [.bool]) ins) (_ : G_l6tRow.pre ins) : F_l6tRow.pre ins ∧ F_l6tRow.out ins = G_l6tRow.out ins := by
  obtain ⟨g, r, rfl, h1, _⟩ := ints_lit 24 0 ht
  obtain ⟨s, r2, rfl, h2⟩ := bool_cons h1
  obtain rfl := ints0 h2
  refine ⟨?_, congrFun (congrFun out_l6tRow g) s⟩
  exact ⟨⟨trivial, trivial⟩, ⟨.inl rfl, trivial⟩, ⟨trivial, trivial⟩, ⟨.inl rfl, trivial⟩, ⟨trivial, trivial⟩, ⟨.inl rfl, trivial⟩, ⟨trivial, trivial⟩, ⟨.inl rfl, trivial⟩, trivial⟩
def tr_iTableTimes : Tr :=
  (.evs [.call 0 [(.var 0), (.var 1), (.var 2), (.var 3), (.var 4), (.var 5), (.var 6), (.var 7), (.var 8), (.var 9), (.var 10), (.var 11), (.var 12), (.var 13), (.var 14), (.var 15), (.var 16), (.var 17), (.var 18), (.var 19), (.var 20), (.var 21), (.var 22), (.var 23), (.var 24), (.var 25), (.var 26), (.var 27), (.var 28), (.var 29), (.var 30), (.var 31), (.var 32), (.var 33), (.var 34), (.var 35), (.var 36), (.var 37), (.var 38), (.var 39), (.var 40), (.var 41), (.var 42), (.var 43), (.var 44), (.var 45), (.var 46), (.var 47)] none 1,
    .call 0 [(.var 48), (.var 49), (.var 50), (.var 51), (.var 52), (.var 53), (.var 54), (.var 55), (.var 56), (.var 57), (.var 58), (.var 59), (.var 60), (.var 61), (.var 62), (.var 63), (.var 64), (.var 65), (.var 66), (.var 67), (.var 68), (.var 69), (.var 70), (.var 71), (.var 72), (.var 73), (.var 74), (.var 75), (.var 76), (.var 77), (.var 78), (.var 79), (.var 80), (.var 81), (.var 82), (.var 83), (.var 84), (.var 85), (.var 86), (.var 87), (.var 88), (.var 89), (.var 90), (.var 91), (.var 92), (.var 93), (.var 94), (.var 95)] (some (.var 96)) 1,
    .call 1 [(.ite (.var 96) (.var 97) (.bool false)), (.bool false)] none 1]
  (.evs [.call 2 [(.var 0), (.var 1), (.var 2), (.var 48), (.var 49), (.var 50), (.var 98)] none 4]
  (.evs [.call 2 [(.var 3), (.var 4), (.var 5), (.var 60), (.var 61), (.var 62), (.var 102)] none 4,
    .call 3 [(.var 99), (.var 100), (.var 101), (.var 103), (.var 104), (.var 105), (.var 106)] none 4]
  (.evs [.call 2 [(.var 6), (.var 7), (.var 8), (.var 72), (.var 73), (.var 74), (.var 110)] none 4,
    .call 3 [(.var 107), (.var 108), (.var 109), (.var 111), (.var 112), (.var 113), (.var 114)] none 4]
  (.evs [.call 2 [(.var 9), (.var 10), (.var 11), (.var 84), (.var 85), (.var 86), (.var 118)] none 4,
    .call 3 [(.var 115), (.var 116), (.var 117), (.var 119), (.var 120), (.var 121), (.var 122)] none 4]
  (.evs [.call 2 [(.var 0), (.var 1), (.var 2), (.var 51), (.var 52), (.var 53), (.var 126)] none 4]
  (.evs [.call 2 [(.var 3), (.var 4), (.var 5), (.var 63), (.var 64), (.var 65), (.var 130)] none 4,
    .call 3 [(.var 127), (.var 128), (.var 129), (.var 131), (.var 132), (.var 133), (.var 134)] none 4]
  (.evs [.call 2 [(.var 6), (.var 7), (.var 8), (.var 75), (.var 76), (.var 77), (.var 138)] none 4,
    .call 3 [(.var 135), (.var 136), (.var 137), (.var 139), (.var 140), (.var 141), (.var 142)] none 4]
  (.evs [.call 2 [(.var 9), (.var 10), (.var 11), (.var 87), (.var 88), (.var 89), (.var 146)] none 4,
    .call 3 [(.var 143), (.var 144), (.var 145), (.var 147), (.var 148), (.var 149), (.var 150)] none 4]
  (.evs [.call 2 [(.var 0), (.var 1), (.var 2), (.var 54), (.var 55), (.var 56), (.var 154)] none 4]
  (.evs [.call 2 [(.var 3), (.var 4), (.var 5), (.var 66), (.var 67), (.var 68), (.var 158)] none 4,
    .call 3 [(.var 155), (.var 156), (.var 157), (.var 159), (.var 160), (.var 161), (.var 162)] none 4]
  (.evs [.call 2 [(.var 6), (.var 7), (.var 8), (.var 78), (.var 79), (.var 80), (.var 166)] none 4,
    .call 3 [(.var 163), (.var 164), (.var 165), (.var 167), (.var 168), (.var 169), (.var 170)] none 4]
  (.evs [.call 2 [(.var 9), (.var 10), (.var 11), (.var 90), (.var 91), (.var 92), (.var 174)] none 4,
    .call 3 [(.var 171), (.var 172), (.var 173), (.var 175), (.var 176), (.var 177), (.var 178)] none 4]
  (.evs [.call 2 [(.var 0), (.var 1), (.var 2), (.var 57), (.var 58), (.var 59), (.var 182)] none 4]
  (.evs [.call 2 [(.var 3), (.var 4), (.var 5), (.var 69), (.var 70), (.var 71), (.var 186)] none 4,
    .call 3 [(.var 183), (.var 184), (.var 185), (.var 187), (.var 188), (.var 189), (.var 190)] none 4]
  (.evs [.call 2 [(.var 6), (.var 7), (.var 8), (.var 81), (.var 82), (.var 83), (.var 194)] none 4,
    .call 3 [(.var 191), (.var 192), (.var 193), (.var 195), (.var 196), (.var 197), (.var 198)] none 4]
  (.evs [.call 2 [(.var 9), (.var 10), (.var 11), (.var 93), (.var 94), (.var 95), (.var 202)] none 4,
    .call 3 [(.var 199), (.var 200), (.var 201), (.var 203), (.var 204), (.var 205), (.var 206)] none 4]
  (.evs [.call 2 [(.var 12), (.var 13), (.var 14), (.var 48), (.var 49), (.var 50), (.var 210)] none 4]
  (.evs [.call 2 [(.var 15), (.var 16), (.var 17), (.var 60), (.var 61), (.var 62), (.var 214)] none 4,
    .call 3 [(.var 211), (.var 212), (.var 213), (.var 215), (.var 216), (.var 217), (.var 218)] none 4]
  (.evs [.call 2 [(.var 18), (.var 19), (.var 20), (.var 72), (.var 73), (.var 74), (.var 222)] none 4,
    .call 3 [(.var 219), (.var 220), (.var 221), (.var 223), (.var 224), (.var 225), (.var 226)] none 4]
  (.evs [.call 2 [(.var 21), (.var 22), (.var 23), (.var 84), (.var 85), (.var 86), (.var 230)] none 4,
    .call 3 [(.var 227), (.var 228), (.var 229), (.var 231), (.var 232), (.var 233), (.var 234)] none 4]
  (.evs [.call 2 [(.var 12), (.var 13), (.var 14), (.var 51), (.var 52), (.var 53), (.var 238)] none 4]
  (.evs [.call 2 [(.var 15), (.var 16), (.var 17), (.var 63), (.var 64), (.var 65), (.var 242)] none 4,
    .call 3 [(.var 239), (.var 240), (.var 241), (.var 243), (.var 244), (.var 245), (.var 246)] none 4]
  (.evs [.call 2 [(.var 18), (.var 19), (.var 20), (.var 75), (.var 76), (.var 77), (.var 250)] none 4,
    .call 3 [(.var 247), (.var 248), (.var 249), (.var 251), (.var 252), (.var 253), (.var 254)] none 4]
  (.evs [.call 2 [(.var 21), (.var 22), (.var 23), (.var 87), (.var 88), (.var 89), (.var 258)] none 4,
    .call 3 [(.var 255), (.var 256), (.var 257), (.var 259), (.var 260), (.var 261), (.var 262)] none 4]
  (.evs [.call 2 [(.var 12), (.var 13), (.var 14), (.var 54), (.var 55), (.var 56), (.var 266)] none 4]
  (.evs [.call 2 [(.var 15), (.var 16), (.var 17), (.var 66), (.var 67), (.var 68), (.var 270)] none 4,
    .call 3 [(.var 267), (.var 268), (.var 269), (.var 271), (.var 272), (.var 273), (.var 274)] none 4]
  (.evs [.call 2 [(.var 18), (.var 19), (.var 20), (.var 78), (.var 79), (.var 80), (.var 278)] none 4,
    .call 3 [(.var 275), (.var 276), (.var 277), (.var 279), (.var 280), (.var 281), (.var 282)] none 4]
  (.evs [.call 2 [(.var 21), (.var 22), (.var 23), (.var 90), (.var 91), (.var 92), (.var 286)] none 4,
    .call 3 [(.var 283), (.var 284), (.var 285), (.var 287), (.var 288), (.var 289), (.var 290)] none 4]
  (.evs [.call 2 [(.var 12), (.var 13), (.var 14), (.var 57), (.var 58), (.var 59), (.var 294)] none 4]
  (.evs [.call 2 [(.var 15), (.var 16), (.var 17), (.var 69), (.var 70), (.var 71), (.var 298)] none 4,
    .call 3 [(.var 295), (.var 296), (.var 297), (.var 299), (.var 300), (.var 301), (.var 302)] none 4]
  (.evs [.call 2 [(.var 18), (.var 19), (.var 20), (.var 81), (.var 82), (.var 83), (.var 306)] none 4,
    .call 3 [(.var 303), (.var 304), (.var 305), (.var 307), (.var 308), (.var 309), (.var 310)] none 4]
  (.evs [.call 2 [(.var 21), (.var 22), (.var 23), (.var 93), (.var 94), (.var 95), (.var 314)] none 4,
    .call 3 [(.var 311), (.var 312), (.var 313), (.var 315), (.var 316), (.var 317), (.var 318)] none 4]
  (.evs [.call 2 [(.var 24), (.var 25), (.var 26), (.var 48), (.var 49), (.var 50), (.var 322)] none 4]
  (.evs [.call 2 [(.var 27), (.var 28), (.var 29), (.var 60), (.var 61), (.var 62), (.var 326)] none 4,
    .call 3 [(.var 323), (.var 324), (.var 325), (.var 327), (.var 328), (.var 329), (.var 330)] none 4]
  (.evs [.call 2 [(.var 30), (.var 31), (.var 32), (.var 72), (.var 73), (.var 74), (.var 334)] none 4,
    .call 3 [(.var 331), (.var 332), (.var 333), (.var 335), (.var 336), (.var 337), (.var 338)] none 4]
  (.evs [.call 2 [(.var 33), (.var 34), (.var 35), (.var 84), (.var 85), (.var 86), (.var 342)] none 4,
    .call 3 [(.var 339), (.var 340), (.var 341), (.var 343), (.var 344), (.var 345), (.var 346)] none 4]
  (.evs [.call 2 [(.var 24), (.var 25), (.var 26), (.var 51), (.var 52), (.var 53), (.var 350)] none 4]
  (.evs [.call 2 [(.var 27), (.var 28), (.var 29), (.var 63), (.var 64), (.var 65), (.var 354)] none 4,
    .call 3 [(.var 351), (.var 352), (.var 353), (.var 355), (.var 356), (.var 357), (.var 358)] none 4]
  (.evs [.call 2 [(.var 30), (.var 31), (.var 32), (.var 75), (.var 76), (.var 77), (.var 362)] none 4,
    .call 3 [(.var 359), (.var 360), (.var 361), (.var 363), (.var 364), (.var 365), (.var 366)] none 4]
  (.evs [.call 2 [(.var 33), (.var 34), (.var 35), (.var 87), (.var 88), (.var 89), (.var 370)] none 4,
    .call 3 [(.var 367), (.var 368), (.var 369), (.var 371), (.var 372), (.var 373), (.var 374)] none 4]
  (.evs [.call 2 [(.var 24), (.var 25), (.var 26), (.var 54), (.var 55), (.var 56), (.var 378)] none 4]
  (.evs [.call 2 [(.var 27), (.var 28), (.var 29), (.var 66), (.var 67), (.var 68), (.var 382)] none 4,
    .call 3 [(.var 379), (.var 380), (.var 381), (.var 383), (.var 384), (.var 385), (.var 386)] none 4]
  (.evs [.call 2 [(.var 30), (.var 31), (.var 32), (.var 78), (.var 79), (.var 80), (.var 390)] none 4,
    .call 3 [(.var 387), (.var 388), (.var 389), (.var 391), (.var 392), (.var 393), (.var 394)] none 4]
  (.evs [.call 2 [(.var 33), (.var 34), (.var 35), (.var 90), (.var 91), (.var 92), (.var 398)] none 4,
    .call 3 [(.var 395), (.var 396), (.var 397), (.var 399), (.var 400), (.var 401), (.var 402)] none 4]
  (.evs [.call 2 [(.var 24), (.var 25), (.var 26), (.var 57), (.var 58), (.var 59), (.var 406)] none 4]
  (.evs [.call 2 [(.var 27), (.var 28), (.var 29), (.var 69), (.var 70), (.var 71), (.var 410)] none 4,
    .call 3 [(.var 407), (.var 408), (.var 409), (.var 411), (.var 412), (.var 413), (.var 414)] none 4]
  (.evs [.call 2 [(.var 30), (.var 31), (.var 32), (.var 81), (.var 82), (.var 83), (.var 418)] none 4,
    .call 3 [(.var 415), (.var 416), (.var 417), (.var 419), (.var 420), (.var 421), (.var 422)] none 4]
  (.evs [.call 2 [(.var 33), (.var 34), (.var 35), (.var 93), (.var 94), (.var 95), (.var 426)] none 4,
    .call 3 [(.var 423), (.var 424), (.var 425), (.var 427), (.var 428), (.var 429), (.var 430)] none 4]
  (.evs [.call 2 [(.var 36), (.var 37), (.var 38), (.var 48), (.var 49), (.var 50), (.var 434)] none 4]
  (.evs [.call 2 [(.var 39), (.var 40), (.var 41), (.var 60), (.var 61), (.var 62), (.var 438)] none 4,
    .call 3 [(.var 435), (.var 436), (.var 437), (.var 439), (.var 440), (.var 441), (.var 442)] none 4]
  (.evs [.call 2 [(.var 42), (.var 43), (.var 44), (.var 72), (.var 73), (.var 74), (.var 446)] none 4,
    .call 3 [(.var 443), (.var 444), (.var 445), (.var 447), (.var 448), (.var 449), (.var 450)] none 4]
  (.evs [.call 2 [(.var 45), (.var 46), (.var 47), (.var 84), (.var 85), (.var 86), (.var 454)] none 4,
    .call 3 [(.var 451), (.var 452), (.var 453), (.var 455), (.var 456), (.var 457), (.var 458)] none 4]
  (.evs [.call 2 [(.var 36), (.var 37), (.var 38), (.var 51), (.var 52), (.var 53), (.var 462)] none 4]
  (.evs [.call 2 [(.var 39), (.var 40), (.var 41), (.var 63), (.var 64), (.var 65), (.var 466)] none 4,
    .call 3 [(.var 463), (.var 464), (.var 465), (.var 467), (.var 468), (.var 469), (.var 470)] none 4]
  (.evs [.call 2 [(.var 42), (.var 43), (.var 44), (.var 75), (.var 76), (.var 77), (.var 474)] none 4,
    .call 3 [(.var 471), (.var 472), (.var 473), (.var 475), (.var 476), (.var 477), (.var 478)] none 4]
  (.evs [.call 2 [(.var 45), (.var 46), (.var 47), (.var 87), (.var 88), (.var 89), (.var 482)] none 4,
    .call 3 [(.var 479), (.var 480), (.var 481), (.var 483), (.var 484), (.var 485), (.var 486)] none 4]
  (.evs [.call 2 [(.var 36), (.var 37), (.var 38), (.var 54), (.var 55), (.var 56), (.var 490)] none 4]
  (.evs [.call 2 [(.var 39), (.var 40), (.var 41), (.var 66), (.var 67), (.var 68), (.var 494)] none 4,
    .call 3 [(.var 491), (.var 492), (.var 493), (.var 495), (.var 496), (.var 497), (.var 498)] none 4]
  (.evs [.call 2 [(.var 42), (.var 43), (.var 44), (.var 78), (.var 79), (.var 80), (.var 502)] none 4,
    .call 3 [(.var 499), (.var 500), (.var 501), (.var 503), (.var 504), (.var 505), (.var 506)] none 4]
  (.evs [.call 2 [(.var 45), (.var 46), (.var 47), (.var 90), (.var 91), (.var 92), (.var 510)] none 4,
    .call 3 [(.var 507), (.var 508), (.var 509), (.var 511), (.var 512), (.var 513), (.var 514)] none 4]
  (.evs [.call 2 [(.var 36), (.var 37), (.var 38), (.var 57), (.var 58), (.var 59), (.var 518)] none 4]
  (.evs [.call 2 [(.var 39), (.var 40), (.var 41), (.var 69), (.var 70), (.var 71), (.var 522)] none 4,
    .call 3 [(.var 519), (.var 520), (.var 521), (.var 523), (.var 524), (.var 525), (.var 526)] none 4]
  (.evs [.call 2 [(.var 42), (.var 43), (.var 44), (.var 81), (.var 82), (.var 83), (.var 530)] none 4,
    .call 3 [(.var 527), (.var 528), (.var 529), (.var 531), (.var 532), (.var 533), (.var 534)] none 4]
  (.evs [.call 2 [(.var 45), (.var 46), (.var 47), (.var 93), (.var 94), (.var 95), (.var 538)] none 4,
    .call 3 [(.var 535), (.var 536), (.var 537), (.var 539), (.var 540), (.var 541), (.var 542)] none 4]
  (.evs [.call 4 [(.var 123), (.var 124), (.var 125), (.var 151), (.var 152), (.var 153), (.var 179), (.var 180), (.var 181), (.var 207), (.var 208), (.var 209), (.var 235), (.var 236), (.var 237), (.var 263), (.var 264), (.var 265), (.var 291), (.var 292), (.var 293), (.var 319), (.var 320), (.var 321), (.var 347), (.var 348), (.var 349), (.var 375), (.var 376), (.var 377), (.var 403), (.var 404), (.var 405), (.var 431), (.var 432), (.var 433), (.var 459), (.var 460), (.var 461), (.var 487), (.var 488), (.var 489), (.var 515), (.var 516), (.var 517), (.var 543), (.var 544), (.var 545), (.var 546)] none 50]
  (.ret [(.var 547), (.var 548), (.var 549), (.var 550), (.var 551), (.var 552), (.var 553), (.var 554), (.var 555), (.var 556), (.var 557), (.var 558), (.var 559), (.var 560), (.var 561), (.var 562), (.var 563), (.var 564), (.var 565), (.var 566), (.var 567), (.var 568), (.var 569), (.var 570), (.var 571), (.var 572), (.var 573), (.var 574), (.var 575), (.var 576), (.var 577), (.var 578), (.var 579), (.var 580), (.var 581), (.var 582), (.var 583), (.var 584), (.var 585), (.var 586), (.var 587), (.var 588), (.var 589), (.var 590), (.var 591), (.var 592), (.var 593), (.var 594), (.var 595)])))))))))))))))))))))))))))))))))))))))))))))))))))))))))))))))))))
def Fs_iTableTimes : List Fun1 := [G_iTableValid, G_need, G_times, G_add, G_gotTable]
def F_iTableTimes : Fun1 := ofTree Fs_iTableTimes tr_iTableTimes
def G_iTableTimes : Fun1 := ⟨fun _ => True, fun ins => ttW (tabQ (fun k => q3 ins (3 * k)) && tabQ (fun k => q3 ins (48 + 3 * k))) (dotK (fun k => q3 ins (3 * k)) (fun k => q3 ins (48 + 3 * k)))⟩
def ttI (a b : Nat → Q) : List Q × Bool := cellsI (fun k s => cellI (rowF a (k / 4)) (colF b (k % 4)) s) 0 16 (false || !andG (tabQ a) (tabQ b))
theorem ttI_fin (a b : Nat → Q) : gotL (ttI a b).2 (ttI a b).1 ++ [.bool (!(ttI a b).2)] = ttV (tabQ a && tabQ b) (dotK a b) := by
  unfold ttI
  rw [andG_eq, Bool.false_or]
  exact ttI_eq (d := dotK a b) (fun k s => cellI_spec _ _ s) _
theorem out_iTableTimes : (fun (g : Nat → Int) => evalT' Fs_iTableTimes tr_iTableTimes (ivs g 0 96)) = fun g =>
    gotL (ttI (fun k => q3 (ivs g 0 96) (3 * k)) (fun k => q3 (ivs g 0 96) (48 + 3 * k))).2 (ttI (fun k => q3 (ivs g 0 96) (3 * k)) (fun k => q3 (ivs g 0 96) (48 + 3 * k))).1 ++
      [.bool (!(ttI (fun k => q3 (ivs g 0 96) (3 * k)) (fun k => q3 (ivs g 0 96) (48 + 3 * k))).2)] := by kernel_rfl
theorem as_iTableTimes (ins : List Value) (ht : TypedL (intTs 96 ++ []) ins) (_ : G_iTableTimes.pre ins) : F_iTableTimes.pre ins ∧ F_iTableTimes.out ins = G_iTableTimes.out ins := by
  obtain ⟨g, r, rfl, h1, _⟩ := ints_lit 96 0 ht
  obtain rfl := ints0 h1
  rw [List.append_nil]
  refine ⟨okT_free (by intro F hF ins; simp only [Fs_iTableTimes, List.mem_cons, List.not_mem_nil, or_false] at hF; rcases hF with rfl | rfl | rfl | rfl | rfl <;> trivial) _ _ (by kernel_rfl), (evalT_sel (lens := [1]) (Lens.cons (fun _ => rfl) Lens.nil) _ _ (by kernel_rfl)).trans ((congrFun out_iTableTimes g).trans ?_)⟩
  exact (ttI_fin _ _).trans (ttV_eq _ _)
def tr_sTableTimes : Tr :=
  (.evs [.call 0 [(.var 0), (.var 1), (.var 2), (.var 3), (.var 4), (.var 5), (.var 6), (.var 7), (.var 8), (.var 9), (.var 10), (.var 11), (.var 12), (.var 13), (.var 14), (.var 15), (.var 16), (.var 17), (.var 18), (.var 19), (.var 20), (.var 21), (.var 22), (.var 23), (.var 24), (.var 25), (.var 26), (.var 27), (.var 28), (.var 29), (.var 30), (.var 31), (.var 32), (.var 33), (.var 34), (.var 35), (.var 36), (.var 37), (.var 38), (.var 39), (.var 40), (.var 41), (.var 42), (.var 43), (.var 44), (.var 45), (.var 46), (.var 47)] none 1,
    .call 0 [(.var 48), (.var 49), (.var 50), (.var 51), (.var 52), (.var 53), (.var 54), (.var 55), (.var 56), (.var 57), (.var 58), (.var 59), (.var 60), (.var 61), (.var 62), (.var 63), (.var 64), (.var 65), (.var 66), (.var 67), (.var 68), (.var 69), (.var 70), (.var 71), (.var 72), (.var 73), (.var 74), (.var 75), (.var 76), (.var 77), (.var 78), (.var 79), (.var 80), (.var 81), (.var 82), (.var 83), (.var 84), (.var 85), (.var 86), (.var 87), (.var 88), (.var 89), (.var 90), (.var 91), (.var 92), (.var 93), (.var 94), (.var 95)] (some (.var 96)) 1]
  (.ite (.ite (.var 96) (.var 97) (.bool false))
  (.evs [.need [(.bool true)]]
   (.evs [.need [(.bool true)],
     .call 1 [(.var 0), (.var 1), (.var 2), (.var 3), (.var 4), (.var 5), (.var 6), (.var 7), (.var 8), (.var 9), (.var 10), (.var 11), (.var 12), (.var 13), (.var 14), (.var 15), (.var 16), (.var 17), (.var 18), (.var 19), (.var 20), (.var 21), (.var 22), (.var 23), (.var 24), (.var 25), (.var 26), (.var 27), (.var 28), (.var 29), (.var 30), (.var 31), (.var 32), (.var 33), (.var 34), (.var 35), (.var 36), (.var 37), (.var 38), (.var 39), (.var 40), (.var 41), (.var 42), (.var 43), (.var 44), (.var 45), (.var 46), (.var 47)] none 12,
     .call 5 [(.var 98), (.var 99), (.var 100), (.var 101), (.var 102), (.var 103), (.var 104), (.var 105), (.var 106), (.var 107), (.var 108), (.var 109), (.var 48), (.var 49), (.var 50), (.var 60), (.var 61), (.var 62), (.var 72), (.var 73), (.var 74), (.var 84), (.var 85), (.var 86), (.ite (.var 96) (.var 97) (.bool false))] none 4]
   (.ite (.var 113)
   (.evs [.need [(.bool true)]]
    (.evs [.need [(.bool true)],
      .call 1 [(.var 0), (.var 1), (.var 2), (.var 3), (.var 4), (.var 5), (.var 6), (.var 7), (.var 8), (.var 9), (.var 10), (.var 11), (.var 12), (.var 13), (.var 14), (.var 15), (.var 16), (.var 17), (.var 18), (.var 19), (.var 20), (.var 21), (.var 22), (.var 23), (.var 24), (.var 25), (.var 26), (.var 27), (.var 28), (.var 29), (.var 30), (.var 31), (.var 32), (.var 33), (.var 34), (.var 35), (.var 36), (.var 37), (.var 38), (.var 39), (.var 40), (.var 41), (.var 42), (.var 43), (.var 44), (.var 45), (.var 46), (.var 47)] none 12,
      .call 5 [(.var 114), (.var 115), (.var 116), (.var 117), (.var 118), (.var 119), (.var 120), (.var 121), (.var 122), (.var 123), (.var 124), (.var 125), (.var 51), (.var 52), (.var 53), (.var 63), (.var 64), (.var 65), (.var 75), (.var 76), (.var 77), (.var 87), (.var 88), (.var 89), (.var 113)] none 4]
    (.ite (.var 129)
    (.evs [.need [(.bool true)]]
     (.evs [.need [(.bool true)],
       .call 1 [(.var 0), (.var 1), (.var 2), (.var 3), (.var 4), (.var 5), (.var 6), (.var 7), (.var 8), (.var 9), (.var 10), (.var 11), (.var 12), (.var 13), (.var 14), (.var 15), (.var 16), (.var 17), (.var 18), (.var 19), (.var 20), (.var 21), (.var 22), (.var 23), (.var 24), (.var 25), (.var 26), (.var 27), (.var 28), (.var 29), (.var 30), (.var 31), (.var 32), (.var 33), (.var 34), (.var 35), (.var 36), (.var 37), (.var 38), (.var 39), (.var 40), (.var 41), (.var 42), (.var 43), (.var 44), (.var 45), (.var 46), (.var 47)] none 12,
       .call 5 [(.var 130), (.var 131), (.var 132), (.var 133), (.var 134), (.var 135), (.var 136), (.var 137), (.var 138), (.var 139), (.var 140), (.var 141), (.var 54), (.var 55), (.var 56), (.var 66), (.var 67), (.var 68), (.var 78), (.var 79), (.var 80), (.var 90), (.var 91), (.var 92), (.var 129)] none 4]
     (.ite (.var 145)
     (.evs [.need [(.bool true)]]
      (.evs [.need [(.bool true)],
        .call 1 [(.var 0), (.var 1), (.var 2), (.var 3), (.var 4), (.var 5), (.var 6), (.var 7), (.var 8), (.var 9), (.var 10), (.var 11), (.var 12), (.var 13), (.var 14), (.var 15), (.var 16), (.var 17), (.var 18), (.var 19), (.var 20), (.var 21), (.var 22), (.var 23), (.var 24), (.var 25), (.var 26), (.var 27), (.var 28), (.var 29), (.var 30), (.var 31), (.var 32), (.var 33), (.var 34), (.var 35), (.var 36), (.var 37), (.var 38), (.var 39), (.var 40), (.var 41), (.var 42), (.var 43), (.var 44), (.var 45), (.var 46), (.var 47)] none 12,
        .call 5 [(.var 146), (.var 147), (.var 148), (.var 149), (.var 150), (.var 151), (.var 152), (.var 153), (.var 154), (.var 155), (.var 156), (.var 157), (.var 57), (.var 58), (.var 59), (.var 69), (.var 70), (.var 71), (.var 81), (.var 82), (.var 83), (.var 93), (.var 94), (.var 95), (.var 145)] none 4]
      (.ite (.var 161)
      (.evs [.need [(.bool true)]]
       (.evs [.need [(.bool true)],
         .call 2 [(.var 0), (.var 1), (.var 2), (.var 3), (.var 4), (.var 5), (.var 6), (.var 7), (.var 8), (.var 9), (.var 10), (.var 11), (.var 12), (.var 13), (.var 14), (.var 15), (.var 16), (.var 17), (.var 18), (.var 19), (.var 20), (.var 21), (.var 22), (.var 23), (.var 24), (.var 25), (.var 26), (.var 27), (.var 28), (.var 29), (.var 30), (.var 31), (.var 32), (.var 33), (.var 34), (.var 35), (.var 36), (.var 37), (.var 38), (.var 39), (.var 40), (.var 41), (.var 42), (.var 43), (.var 44), (.var 45), (.var 46), (.var 47)] none 12,
         .call 5 [(.var 162), (.var 163), (.var 164), (.var 165), (.var 166), (.var 167), (.var 168), (.var 169), (.var 170), (.var 171), (.var 172), (.var 173), (.var 48), (.var 49), (.var 50), (.var 60), (.var 61), (.var 62), (.var 72), (.var 73), (.var 74), (.var 84), (.var 85), (.var 86), (.var 161)] none 4]
       (.ite (.var 177)
       (.evs [.need [(.bool true)]]
        (.evs [.need [(.bool true)],
          .call 2 [(.var 0), (.var 1), (.var 2), (.var 3), (.var 4), (.var 5), (.var 6), (.var 7), (.var 8), (.var 9), (.var 10), (.var 11), (.var 12), (.var 13), (.var 14), (.var 15), (.var 16), (.var 17), (.var 18), (.var 19), (.var 20), (.var 21), (.var 22), (.var 23), (.var 24), (.var 25), (.var 26), (.var 27), (.var 28), (.var 29), (.var 30), (.var 31), (.var 32), (.var 33), (.var 34), (.var 35), (.var 36), (.var 37), (.var 38), (.var 39), (.var 40), (.var 41), (.var 42), (.var 43), (.var 44), (.var 45), (.var 46), (.var 47)] none 12,
          .call 5 [(.var 178), (.var 179), (.var 180), (.var 181), (.var 182), (.var 183), (.var 184), (.var 185), (.var 186), (.var 187), (.var 188), (.var 189), (.var 51), (.var 52), (.var 53), (.var 63), (.var 64), (.var 65), (.var 75), (.var 76), (.var 77), (.var 87), (.var 88), (.var 89), (.var 177)] none 4]
        (.ite (.var 193)
        (.evs [.need [(.bool true)]]
         (.evs [.need [(.bool true)],
           .call 2 [(.var 0), (.var 1), (.var 2), (.var 3), (.var 4), (.var 5), (.var 6), (.var 7), (.var 8), (.var 9), (.var 10), (.var 11), (.var 12), (.var 13), (.var 14), (.var 15), (.var 16), (.var 17), (.var 18), (.var 19), (.var 20), (.var 21), (.var 22), (.var 23), (.var 24), (.var 25), (.var 26), (.var 27), (.var 28), (.var 29), (.var 30), (.var 31), (.var 32), (.var 33), (.var 34), (.var 35), (.var 36), (.var 37), (.var 38), (.var 39), (.var 40), (.var 41), (.var 42), (.var 43), (.var 44), (.var 45), (.var 46), (.var 47)] none 12,
           .call 5 [(.var 194), (.var 195), (.var 196), (.var 197), (.var 198), (.var 199), (.var 200), (.var 201), (.var 202), (.var 203), (.var 204), (.var 205), (.var 54), (.var 55), (.var 56), (.var 66), (.var 67), (.var 68), (.var 78), (.var 79), (.var 80), (.var 90), (.var 91), (.var 92), (.var 193)] none 4]
         (.ite (.var 209)
         (.evs [.need [(.bool true)]]
          (.evs [.need [(.bool true)],
            .call 2 [(.var 0), (.var 1), (.var 2), (.var 3), (.var 4), (.var 5), (.var 6), (.var 7), (.var 8), (.var 9), (.var 10), (.var 11), (.var 12), (.var 13), (.var 14), (.var 15), (.var 16), (.var 17), (.var 18), (.var 19), (.var 20), (.var 21), (.var 22), (.var 23), (.var 24), (.var 25), (.var 26), (.var 27), (.var 28), (.var 29), (.var 30), (.var 31), (.var 32), (.var 33), (.var 34), (.var 35), (.var 36), (.var 37), (.var 38), (.var 39), (.var 40), (.var 41), (.var 42), (.var 43), (.var 44), (.var 45), (.var 46), (.var 47)] none 12,
            .call 5 [(.var 210), (.var 211), (.var 212), (.var 213), (.var 214), (.var 215), (.var 216), (.var 217), (.var 218), (.var 219), (.var 220), (.var 221), (.var 57), (.var 58), (.var 59), (.var 69), (.var 70), (.var 71), (.var 81), (.var 82), (.var 83), (.var 93), (.var 94), (.var 95), (.var 209)] none 4]
          (.ite (.var 225)
          (.evs [.need [(.bool true)]]
           (.evs [.need [(.bool true)],
             .call 3 [(.var 0), (.var 1), (.var 2), (.var 3), (.var 4), (.var 5), (.var 6), (.var 7), (.var 8), (.var 9), (.var 10), (.var 11), (.var 12), (.var 13), (.var 14), (.var 15), (.var 16), (.var 17), (.var 18), (.var 19), (.var 20), (.var 21), (.var 22), (.var 23), (.var 24), (.var 25), (.var 26), (.var 27), (.var 28), (.var 29), (.var 30), (.var 31), (.var 32), (.var 33), (.var 34), (.var 35), (.var 36), (.var 37), (.var 38), (.var 39), (.var 40), (.var 41), (.var 42), (.var 43), (.var 44), (.var 45), (.var 46), (.var 47)] none 12,
             .call 5 [(.var 226), (.var 227), (.var 228), (.var 229), (.var 230), (.var 231), (.var 232), (.var 233), (.var 234), (.var 235), (.var 236), (.var 237), (.var 48), (.var 49), (.var 50), (.var 60), (.var 61), (.var 62), (.var 72), (.var 73), (.var 74), (.var 84), (.var 85), (.var 86), (.var 225)] none 4]
           (.ite (.var 241)
           (.evs [.need [(.bool true)]]
            (.evs [.need [(.bool true)],
              .call 3 [(.var 0), (.var 1), (.var 2), (.var 3), (.var 4), (.var 5), (.var 6), (.var 7), (.var 8), (.var 9), (.var 10), (.var 11), (.var 12), (.var 13), (.var 14), (.var 15), (.var 16), (.var 17), (.var 18), (.var 19), (.var 20), (.var 21), (.var 22), (.var 23), (.var 24), (.var 25), (.var 26), (.var 27), (.var 28), (.var 29), (.var 30), (.var 31), (.var 32), (.var 33), (.var 34), (.var 35), (.var 36), (.var 37), (.var 38), (.var 39), (.var 40), (.var 41), (.var 42), (.var 43), (.var 44), (.var 45), (.var 46), (.var 47)] none 12,
              .call 5 [(.var 242), (.var 243), (.var 244), (.var 245), (.var 246), (.var 247), (.var 248), (.var 249), (.var 250), (.var 251), (.var 252), (.var 253), (.var 51), (.var 52), (.var 53), (.var 63), (.var 64), (.var 65), (.var 75), (.var 76), (.var 77), (.var 87), (.var 88), (.var 89), (.var 241)] none 4]
            (.ite (.var 257)
            (.evs [.need [(.bool true)]]
             (.evs [.need [(.bool true)],
               .call 3 [(.var 0), (.var 1), (.var 2), (.var 3), (.var 4), (.var 5), (.var 6), (.var 7), (.var 8), (.var 9), (.var 10), (.var 11), (.var 12), (.var 13), (.var 14), (.var 15), (.var 16), (.var 17), (.var 18), (.var 19), (.var 20), (.var 21), (.var 22), (.var 23), (.var 24), (.var 25), (.var 26), (.var 27), (.var 28), (.var 29), (.var 30), (.var 31), (.var 32), (.var 33), (.var 34), (.var 35), (.var 36), (.var 37), (.var 38), (.var 39), (.var 40), (.var 41), (.var 42), (.var 43), (.var 44), (.var 45), (.var 46), (.var 47)] none 12,
               .call 5 [(.var 258), (.var 259), (.var 260), (.var 261), (.var 262), (.var 263), (.var 264), (.var 265), (.var 266), (.var 267), (.var 268), (.var 269), (.var 54), (.var 55), (.var 56), (.var 66), (.var 67), (.var 68), (.var 78), (.var 79), (.var 80), (.var 90), (.var 91), (.var 92), (.var 257)] none 4]
             (.ite (.var 273)
             (.evs [.need [(.bool true)]]
              (.evs [.need [(.bool true)],
                .call 3 [(.var 0), (.var 1), (.var 2), (.var 3), (.var 4), (.var 5), (.var 6), (.var 7), (.var 8), (.var 9), (.var 10), (.var 11), (.var 12), (.var 13), (.var 14), (.var 15), (.var 16), (.var 17), (.var 18), (.var 19), (.var 20), (.var 21), (.var 22), (.var 23), (.var 24), (.var 25), (.var 26), (.var 27), (.var 28), (.var 29), (.var 30), (.var 31), (.var 32), (.var 33), (.var 34), (.var 35), (.var 36), (.var 37), (.var 38), (.var 39), (.var 40), (.var 41), (.var 42), (.var 43), (.var 44), (.var 45), (.var 46), (.var 47)] none 12,
                .call 5 [(.var 274), (.var 275), (.var 276), (.var 277), (.var 278), (.var 279), (.var 280), (.var 281), (.var 282), (.var 283), (.var 284), (.var 285), (.var 57), (.var 58), (.var 59), (.var 69), (.var 70), (.var 71), (.var 81), (.var 82), (.var 83), (.var 93), (.var 94), (.var 95), (.var 273)] none 4]
              (.ite (.var 289)
              (.evs [.need [(.bool true)]]
               (.evs [.need [(.bool true)],
                 .call 4 [(.var 0), (.var 1), (.var 2), (.var 3), (.var 4), (.var 5), (.var 6), (.var 7), (.var 8), (.var 9), (.var 10), (.var 11), (.var 12), (.var 13), (.var 14), (.var 15), (.var 16), (.var 17), (.var 18), (.var 19), (.var 20), (.var 21), (.var 22), (.var 23), (.var 24), (.var 25), (.var 26), (.var 27), (.var 28), (.var 29), (.var 30), (.var 31), (.var 32), (.var 33), (.var 34), (.var 35), (.var 36), (.var 37), (.var 38), (.var 39), (.var 40), (.var 41), (.var 42), (.var 43), (.var 44), (.var 45), (.var 46), (.var 47)] none 12,
                 .call 5 [(.var 290), (.var 291), (.var 292), (.var 293), (.var 294), (.var 295), (.var 296), (.var 297), (.var 298), (.var 299), (.var 300), (.var 301), (.var 48), (.var 49), (.var 50), (.var 60), (.var 61), (.var 62), (.var 72), (.var 73), (.var 74), (.var 84), (.var 85), (.var 86), (.var 289)] none 4]
               (.ite (.var 305)
               (.evs [.need [(.bool true)]]
                (.evs [.need [(.bool true)],
                  .call 4 [(.var 0), (.var 1), (.var 2), (.var 3), (.var 4), (.var 5), (.var 6), (.var 7), (.var 8), (.var 9), (.var 10), (.var 11), (.var 12), (.var 13), (.var 14), (.var 15), (.var 16), (.var 17), (.var 18), (.var 19), (.var 20), (.var 21), (.var 22), (.var 23), (.var 24), (.var 25), (.var 26), (.var 27), (.var 28), (.var 29), (.var 30), (.var 31), (.var 32), (.var 33), (.var 34), (.var 35), (.var 36), (.var 37), (.var 38), (.var 39), (.var 40), (.var 41), (.var 42), (.var 43), (.var 44), (.var 45), (.var 46), (.var 47)] none 12,
                  .call 5 [(.var 306), (.var 307), (.var 308), (.var 309), (.var 310), (.var 311), (.var 312), (.var 313), (.var 314), (.var 315), (.var 316), (.var 317), (.var 51), (.var 52), (.var 53), (.var 63), (.var 64), (.var 65), (.var 75), (.var 76), (.var 77), (.var 87), (.var 88), (.var 89), (.var 305)] none 4]
                (.ite (.var 321)
                (.evs [.need [(.bool true)]]
                 (.evs [.need [(.bool true)],
                   .call 4 [(.var 0), (.var 1), (.var 2), (.var 3), (.var 4), (.var 5), (.var 6), (.var 7), (.var 8), (.var 9), (.var 10), (.var 11), (.var 12), (.var 13), (.var 14), (.var 15), (.var 16), (.var 17), (.var 18), (.var 19), (.var 20), (.var 21), (.var 22), (.var 23), (.var 24), (.var 25), (.var 26), (.var 27), (.var 28), (.var 29), (.var 30), (.var 31), (.var 32), (.var 33), (.var 34), (.var 35), (.var 36), (.var 37), (.var 38), (.var 39), (.var 40), (.var 41), (.var 42), (.var 43), (.var 44), (.var 45), (.var 46), (.var 47)] none 12,
                   .call 5 [(.var 322), (.var 323), (.var 324), (.var 325), (.var 326), (.var 327), (.var 328), (.var 329), (.var 330), (.var 331), (.var 332), (.var 333), (.var 54), (.var 55), (.var 56), (.var 66), (.var 67), (.var 68), (.var 78), (.var 79), (.var 80), (.var 90), (.var 91), (.var 92), (.var 321)] none 4]
                 (.ite (.var 337)
                 (.evs [.need [(.bool true)]]
                  (.evs [.need [(.bool true)],
                    .call 4 [(.var 0), (.var 1), (.var 2), (.var 3), (.var 4), (.var 5), (.var 6), (.var 7), (.var 8), (.var 9), (.var 10), (.var 11), (.var 12), (.var 13), (.var 14), (.var 15), (.var 16), (.var 17), (.var 18), (.var 19), (.var 20), (.var 21), (.var 22), (.var 23), (.var 24), (.var 25), (.var 26), (.var 27), (.var 28), (.var 29), (.var 30), (.var 31), (.var 32), (.var 33), (.var 34), (.var 35), (.var 36), (.var 37), (.var 38), (.var 39), (.var 40), (.var 41), (.var 42), (.var 43), (.var 44), (.var 45), (.var 46), (.var 47)] none 12,
                    .call 5 [(.var 338), (.var 339), (.var 340), (.var 341), (.var 342), (.var 343), (.var 344), (.var 345), (.var 346), (.var 347), (.var 348), (.var 349), (.var 57), (.var 58), (.var 59), (.var 69), (.var 70), (.var 71), (.var 81), (.var 82), (.var 83), (.var 93), (.var 94), (.var 95), (.var 337)] none 4]
                  (.ite (.not (.var 353))
                  (.ret [(.int .i64 0), (.int .i64 0), (.int .i64 0), (.int .i64 0), (.int .i64 0), (.int .i64 0), (.int .i64 0), (.int .i64 0), (.int .i64 0), (.int .i64 0), (.int .i64 0), (.int .i64 0), (.int .i64 0), (.int .i64 0), (.int .i64 0), (.int .i64 0), (.int .i64 0), (.int .i64 0), (.int .i64 0), (.int .i64 0), (.int .i64 0), (.int .i64 0), (.int .i64 0), (.int .i64 0), (.int .i64 0), (.int .i64 0), (.int .i64 0), (.int .i64 0), (.int .i64 0), (.int .i64 0), (.int .i64 0), (.int .i64 0), (.int .i64 0), (.int .i64 0), (.int .i64 0), (.int .i64 0), (.int .i64 0), (.int .i64 0), (.int .i64 0), (.int .i64 0), (.int .i64 0), (.int .i64 0), (.int .i64 0), (.int .i64 0), (.int .i64 0), (.int .i64 0), (.int .i64 0), (.int .i64 0), (.bool false)])
                  (.ret [(.var 110), (.var 111), (.var 112), (.var 126), (.var 127), (.var 128), (.var 142), (.var 143), (.var 144), (.var 158), (.var 159), (.var 160), (.var 174), (.var 175), (.var 176), (.var 190), (.var 191), (.var 192), (.var 206), (.var 207), (.var 208), (.var 222), (.var 223), (.var 224), (.var 238), (.var 239), (.var 240), (.var 254), (.var 255), (.var 256), (.var 270), (.var 271), (.var 272), (.var 286), (.var 287), (.var 288), (.var 302), (.var 303), (.var 304), (.var 318), (.var 319), (.var 320), (.var 334), (.var 335), (.var 336), (.var 350), (.var 351), (.var 352), (.bool true)]))))
                 (.ite (.not (.var 337))
                  (.ret [(.int .i64 0), (.int .i64 0), (.int .i64 0), (.int .i64 0), (.int .i64 0), (.int .i64 0), (.int .i64 0), (.int .i64 0), (.int .i64 0), (.int .i64 0), (.int .i64 0), (.int .i64 0), (.int .i64 0), (.int .i64 0), (.int .i64 0), (.int .i64 0), (.int .i64 0), (.int .i64 0), (.int .i64 0), (.int .i64 0), (.int .i64 0), (.int .i64 0), (.int .i64 0), (.int .i64 0), (.int .i64 0), (.int .i64 0), (.int .i64 0), (.int .i64 0), (.int .i64 0), (.int .i64 0), (.int .i64 0), (.int .i64 0), (.int .i64 0), (.int .i64 0), (.int .i64 0), (.int .i64 0), (.int .i64 0), (.int .i64 0), (.int .i64 0), (.int .i64 0), (.int .i64 0), (.int .i64 0), (.int .i64 0), (.int .i64 0), (.int .i64 0), (.int .i64 0), (.int .i64 0), (.int .i64 0), (.bool false)])
                  (.ret [(.var 110), (.var 111), (.var 112), (.var 126), (.var 127), (.var 128), (.var 142), (.var 143), (.var 144), (.var 158), (.var 159), (.var 160), (.var 174), (.var 175), (.var 176), (.var 190), (.var 191), (.var 192), (.var 206), (.var 207), (.var 208), (.var 222), (.var 223), (.var 224), (.var 238), (.var 239), (.var 240), (.var 254), (.var 255), (.var 256), (.var 270), (.var 271), (.var 272), (.var 286), (.var 287), (.var 288), (.var 302), (.var 303), (.var 304), (.var 318), (.var 319), (.var 320), (.var 334), (.var 335), (.var 336), (.int .i64 0), (.int .i64 0), (.int .i64 0), (.bool true)])))))
                (.ite (.not (.var 321))
                 (.ret [(.int .i64 0), (.int .i64 0), (.int .i64 0), (.int .i64 0), (.int .i64 0), (.int .i64 0), (.int .i64 0), (.int .i64 0), (.int .i64 0), (.int .i64 0), (.int .i64 0), (.int .i64 0), (.int .i64 0), (.int .i64 0), (.int .i64 0), (.int .i64 0), (.int .i64 0), (.int .i64 0), (.int .i64 0), (.int .i64 0), (.int .i64 0), (.int .i64 0), (.int .i64 0), (.int .i64 0), (.int .i64 0), (.int .i64 0), (.int .i64 0), (.int .i64 0), (.int .i64 0), (.int .i64 0), (.int .i64 0), (.int .i64 0), (.int .i64 0), (.int .i64 0), (.int .i64 0), (.int .i64 0), (.int .i64 0), (.int .i64 0), (.int .i64 0), (.int .i64 0), (.int .i64 0), (.int .i64 0), (.int .i64 0), (.int .i64 0), (.int .i64 0), (.int .i64 0), (.int .i64 0), (.int .i64 0), (.bool false)])
                 (.ret [(.var 110), (.var 111), (.var 112), (.var 126), (.var 127), (.var 128), (.var 142), (.var 143), (.var 144), (.var 158), (.var 159), (.var 160), (.var 174), (.var 175), (.var 176), (.var 190), (.var 191), (.var 192), (.var 206), (.var 207), (.var 208), (.var 222), (.var 223), (.var 224), (.var 238), (.var 239), (.var 240), (.var 254), (.var 255), (.var 256), (.var 270), (.var 271), (.var 272), (.var 286), (.var 287), (.var 288), (.var 302), (.var 303), (.var 304), (.var 318), (.var 319), (.var 320), (.int .i64 0), (.int .i64 0), (.int .i64 0), (.int .i64 0), (.int .i64 0), (.int .i64 0), (.bool true)])))))
               (.ite (.not (.var 305))
                (.ret [(.int .i64 0), (.int .i64 0), (.int .i64 0), (.int .i64 0), (.int .i64 0), (.int .i64 0), (.int .i64 0), (.int .i64 0), (.int .i64 0), (.int .i64 0), (.int .i64 0), (.int .i64 0), (.int .i64 0), (.int .i64 0), (.int .i64 0), (.int .i64 0), (.int .i64 0), (.int .i64 0), (.int .i64 0), (.int .i64 0), (.int .i64 0), (.int .i64 0), (.int .i64 0), (.int .i64 0), (.int .i64 0), (.int .i64 0), (.int .i64 0), (.int .i64 0), (.int .i64 0), (.int .i64 0), (.int .i64 0), (.int .i64 0), (.int .i64 0), (.int .i64 0), (.int .i64 0), (.int .i64 0), (.int .i64 0), (.int .i64 0), (.int .i64 0), (.int .i64 0), (.int .i64 0), (.int .i64 0), (.int .i64 0), (.int .i64 0), (.int .i64 0), (.int .i64 0), (.int .i64 0), (.int .i64 0), (.bool false)])
                (.ret [(.var 110), (.var 111), (.var 112), (.var 126), (.var 127), (.var 128), (.var 142), (.var 143), (.var 144), (.var 158), (.var 159), (.var 160), (.var 174), (.var 175), (.var 176), (.var 190), (.var 191), (.var 192), (.var 206), (.var 207), (.var 208), (.var 222), (.var 223), (.var 224), (.var 238), (.var 239), (.var 240), (.var 254), (.var 255), (.var 256), (.var 270), (.var 271), (.var 272), (.var 286), (.var 287), (.var 288), (.var 302), (.var 303), (.var 304), (.int .i64 0), (.int .i64 0), (.int .i64 0), (.int .i64 0), (.int .i64 0), (.int .i64 0), (.int .i64 0), (.int .i64 0), (.int .i64 0), (.bool true)])))))
              (.ite (.not (.var 289))
               (.ret [(.int .i64 0), (.int .i64 0), (.int .i64 0), (.int .i64 0), (.int .i64 0), (.int .i64 0), (.int .i64 0), (.int .i64 0), (.int .i64 0), (.int .i64 0), (.int .i64 0), (.int .i64 0), (.int .i64 0), (.int .i64 0), (.int .i64 0), (.int .i64 0), (.int .i64 0), (.int .i64 0), (.int .i64 0), (.int .i64 0), (.int .i64 0), (.int .i64 0), (.int .i64 0), (.int .i64 0), (.int .i64 0), (.int .i64 0), (.int .i64 0), (.int .i64 0), (.int .i64 0), (.int .i64 0), (.int .i64 0), (.int .i64 0), (.int .i64 0), (.int .i64 0), (.int .i64 0), (.int .i64 0), (.int .i64 0), (.int .i64 0), (.int .i64 0), (.int .i64 0), (.int .i64 0), (.int .i64 0), (.int .i64 0), (.int .i64 0), (.int .i64 0), (.int .i64 0), (.int .i64 0), (.int .i64 0), (.bool false)])
               (.ret [(.var 110), (.var 111), (.var 112), (.var 126), (.var 127), (.var 128), (.var 142), (.var 143), (.var 144), (.var 158), (.var 159), (.var 160), (.var 174), (.var 175), (.var 176), (.var 190), (.var 191), (.var 192), (.var 206), (.var 207), (.var 208), (.var 222), (.var 223), (.var 224), (.var 238), (.var 239), (.var 240), (.var 254), (.var 255), (.var 256), (.var 270), (.var 271), (.var 272), (.var 286), (.var 287), (.var 288), (.int .i64 0), (.int .i64 0), (.int .i64 0), (.int .i64 0), (.int .i64 0), (.int .i64 0), (.int .i64 0), (.int .i64 0), (.int .i64 0), (.int .i64 0), (.int .i64 0), (.int .i64 0), (.bool true)])))))
             (.ite (.not (.var 273))
              (.ret [(.int .i64 0), (.int .i64 0), (.int .i64 0), (.int .i64 0), (.int .i64 0), (.int .i64 0), (.int .i64 0), (.int .i64 0), (.int .i64 0), (.int .i64 0), (.int .i64 0), (.int .i64 0), (.int .i64 0), (.int .i64 0), (.int .i64 0), (.int .i64 0), (.int .i64 0), (.int .i64 0), (.int .i64 0), (.int .i64 0), (.int .i64 0), (.int .i64 0), (.int .i64 0), (.int .i64 0), (.int .i64 0), (.int .i64 0), (.int .i64 0), (.int .i64 0), (.int .i64 0), (.int .i64 0), (.int .i64 0), (.int .i64 0), (.int .i64 0), (.int .i64 0), (.int .i64 0), (.int .i64 0), (.int .i64 0), (.int .i64 0), (.int .i64 0), (.int .i64 0), (.int .i64 0), (.int .i64 0), (.int .i64 0), (.int .i64 0), (.int .i64 0), (.int .i64 0), (.int .i64 0), (.int .i64 0), (.bool false)])
              (.ret [(.var 110), (.var 111), (.var 112), (.var 126), (.var 127), (.var 128), (.var 142), (.var 143), (.var 144), (.var 158), (.var 159), (.var 160), (.var 174), (.var 175), (.var 176), (.var 190), (.var 191), (.var 192), (.var 206), (.var 207), (.var 208), (.var 222), (.var 223), (.var 224), (.var 238), (.var 239), (.var 240), (.var 254), (.var 255), (.var 256), (.var 270), (.var 271), (.var 272), (.int .i64 0), (.int .i64 0), (.int .i64 0), (.int .i64 0), (.int .i64 0), (.int .i64 0), (.int .i64 0), (.int .i64 0), (.int .i64 0), (.int .i64 0), (.int .i64 0), (.int .i64 0), (.int .i64 0), (.int .i64 0), (.int .i64 0), (.bool true)])))))
            (.ite (.not (.var 257))
             (.ret [(.int .i64 0), (.int .i64 0), (.int .i64 0), (.int .i64 0), (.int .i64 0), (.int .i64 0), (.int .i64 0), (.int .i64 0), (.int .i64 0), (.int .i64 0), (.int .i64 0), (.int .i64 0), (.int .i64 0), (.int .i64 0), (.int .i64 0), (.int .i64 0), (.int .i64 0), (.int .i64 0), (.int .i64 0), (.int .i64 0), (.int .i64 0), (.int .i64 0), (.int .i64 0), (.int .i64 0), (.int .i64 0), (.int .i64 0), (.int .i64 0), (.int .i64 0), (.int .i64 0), (.int .i64 0), (.int .i64 0), (.int .i64 0), (.int .i64 0), (.int .i64 0), (.int .i64 0), (.int .i64 0), (.int .i64 0), (.int .i64 0), (.int .i64 0), (.int .i64 0), (.int .i64 0), (.int .i64 0), (.int .i64 0), (.int .i64 0), (.int .i64 0), (.int .i64 0), (.int .i64 0), (.int .i64 0), (.bool false)])
             (.ret [(.var 110), (.var 111), (.var 112), (.var 126), (.var 127), (.var 128), (.var 142), (.var 143), (.var 144), (.var 158), (.var 159), (.var 160), (.var 174), (.var 175), (.var 176), (.var 190), (.var 191), (.var 192), (.var 206), (.var 207), (.var 208), (.var 222), (.var 223), (.var 224), (.var 238), (.var 239), (.var 240), (.var 254), (.var 255), (.var 256), (.int .i64 0), (.int .i64 0), (.int .i64 0), (.int .i64 0), (.int .i64 0), (.int .i64 0), (.int .i64 0), (.int .i64 0), (.int .i64 0), (.int .i64 0), (.int .i64 0), (.int .i64 0), (.int .i64 0), (.int .i64 0), (.int .i64 0), (.int .i64 0), (.int .i64 0), (.int .i64 0), (.bool true)])))))
           (.ite (.not (.var 241))
            (.ret [(.int .i64 0), (.int .i64 0), (.int .i64 0), (.int .i64 0), (.int .i64 0), (.int .i64 0), (.int .i64 0), (.int .i64 0), (.int .i64 0), (.int .i64 0), (.int .i64 0), (.int .i64 0), (.int .i64 0), (.int .i64 0), (.int .i64 0), (.int .i64 0), (.int .i64 0), (.int .i64 0), (.int .i64 0), (.int .i64 0), (.int .i64 0), (.int .i64 0), (.int .i64 0), (.int .i64 0), (.int .i64 0), (.int .i64 0), (.int .i64 0), (.int .i64 0), (.int .i64 0), (.int .i64 0), (.int .i64 0), (.int .i64 0), (.int .i64 0), (.int .i64 0), (.int .i64 0), (.int .i64 0), (.int .i64 0), (.int .i64 0), (.int .i64 0), (.int .i64 0), (.int .i64 0), (.int .i64 0), (.int .i64 0), (.int .i64 0), (.int .i64 0), (.int .i64 0), (.int .i64 0), (.int .i64 0), (.bool false)])
            (.ret [(.var 110), (.var 111), (.var 112), (.var 126), (.var 127), (.var 128), (.var 142), (.var 143), (.var 144), (.var 158), (.var 159), (.var 160), (.var 174), (.var 175), (.var 176), (.var 190), (.var 191), (.var 192), (.var 206), (.var 207), (.var 208), (.var 222), (.var 223), (.var 224), (.var 238), (.var 239), (.var 240), (.int .i64 0), (.int .i64 0), (.int .i64 0), (.int .i64 0), (.int .i64 0), (.int .i64 0), (.int .i64 0), (.int .i64 0), (.int .i64 0), (.int .i64 0), (.int .i64 0), (.int .i64 0), (.int .i64 0), (.int .i64 0), (.int .i64 0), (.int .i64 0), (.int .i64 0), (.int .i64 0), (.int .i64 0), (.int .i64 0), (.int .i64 0), (.bool true)])))))
          (.ite (.not (.var 225))
           (.ret [(.int .i64 0), (.int .i64 0), (.int .i64 0), (.int .i64 0), (.int .i64 0), (.int .i64 0), (.int .i64 0), (.int .i64 0), (.int .i64 0), (.int .i64 0), (.int .i64 0), (.int .i64 0), (.int .i64 0), (.int .i64 0), (.int .i64 0), (.int .i64 0), (.int .i64 0), (.int .i64 0), (.int .i64 0), (.int .i64 0), (.int .i64 0), (.int .i64 0), (.int .i64 0), (.int .i64 0), (.int .i64 0), (.int .i64 0), (.int .i64 0), (.int .i64 0), (.int .i64 0), (.int .i64 0), (.int .i64 0), (.int .i64 0), (.int .i64 0), (.int .i64 0), (.int .i64 0), (.int .i64 0), (.int .i64 0), (.int .i64 0), (.int .i64 0), (.int .i64 0), (.int .i64 0), (.int .i64 0), (.int .i64 0), (.int .i64 0), (.int .i64 0), (.int .i64 0), (.int .i64 0), (.int .i64 0), (.bool false)])
           (.ret [(.var 110), (.var 111), (.var 112), (.var 126), (.var 127), (.var 128), (.var 142), (.var 143), (.var 144), (.var 158), (.var 159), (.var 160), (.var 174), (.var 175), (.var 176), (.var 190), (.var 191), (.var 192), (.var 206), (.var 207), (.var 208), (.var 222), (.var 223), (.var 224), (.int .i64 0), (.int .i64 0), (.int .i64 0), (.int .i64 0), (.int .i64 0), (.int .i64 0), (.int .i64 0), (.int .i64 0), (.int .i64 0), (.int .i64 0), (.int .i64 0), (.int .i64 0), (.int .i64 0), (.int .i64 0), (.int .i64 0), (.int .i64 0), (.int .i64 0), (.int .i64 0), (.int .i64 0), (.int .i64 0), (.int .i64 0), (.int .i64 0), (.int .i64 0), (.int .i64 0), (.bool true)])))))
         (.ite (.not (.var 209))
          (.ret [(.int .i64 0), (.int .i64 0), (.int .i64 0), (.int .i64 0), (.int .i64 0), (.int .i64 0), (.int .i64 0), (.int .i64 0), (.int .i64 0), (.int .i64 0), (.int .i64 0), (.int .i64 0), (.int .i64 0), (.int .i64 0), (.int .i64 0), (.int .i64 0), (.int .i64 0), (.int .i64 0), (.int .i64 0), (.int .i64 0), (.int .i64 0), (.int .i64 0), (.int .i64 0), (.int .i64 0), (.int .i64 0), (.int .i64 0), (.int .i64 0), (.int .i64 0), (.int .i64 0), (.int .i64 0), (.int .i64 0), (.int .i64 0), (.int .i64 0), (.int .i64 0), (.int .i64 0), (.int .i64 0), (.int .i64 0), (.int .i64 0), (.int .i64 0), (.int .i64 0), (.int .i64 0), (.int .i64 0), (.int .i64 0), (.int .i64 0), (.int .i64 0), (.int .i64 0), (.int .i64 0), (.int .i64 0), (.bool false)])
          (.ret [(.var 110), (.var 111), (.var 112), (.var 126), (.var 127), (.var 128), (.var 142), (.var 143), (.var 144), (.var 158), (.var 159), (.var 160), (.var 174), (.var 175), (.var 176), (.var 190), (.var 191), (.var 192), (.var 206), (.var 207), (.var 208), (.int .i64 0), (.int .i64 0), (.int .i64 0), (.int .i64 0), (.int .i64 0), (.int .i64 0), (.int .i64 0), (.int .i64 0), (.int .i64 0), (.int .i64 0), (.int .i64 0), (.int .i64 0), (.int .i64 0), (.int .i64 0), (.int .i64 0), (.int .i64 0), (.int .i64 0), (.int .i64 0), (.int .i64 0), (.int .i64 0), (.int .i64 0), (.int .i64 0), (.int .i64 0), (.int .i64 0), (.int .i64 0), (.int .i64 0), (.int .i64 0), (.bool true)])))))
        (.ite (.not (.var 193))
         (.ret [(.int .i64 0), (.int .i64 0), (.int .i64 0), (.int .i64 0), (.int .i64 0), (.int .i64 0), (.int .i64 0), (.int .i64 0), (.int .i64 0), (.int .i64 0), (.int .i64 0), (.int .i64 0), (.int .i64 0), (.int .i64 0), (.int .i64 0), (.int .i64 0), (.int .i64 0), (.int .i64 0), (.int .i64 0), (.int .i64 0), (.int .i64 0), (.int .i64 0), (.int .i64 0), (.int .i64 0), (.int .i64 0), (.int .i64 0), (.int .i64 0), (.int .i64 0), (.int .i64 0), (.int .i64 0), (.int .i64 0), (.int .i64 0), (.int .i64 0), (.int .i64 0), (.int .i64 0), (.int .i64 0), (.int .i64 0), (.int .i64 0), (.int .i64 0), (.int .i64 0), (.int .i64 0), (.int .i64 0), (.int .i64 0), (.int .i64 0), (.int .i64 0), (.int .i64 0), (.int .i64 0), (.int .i64 0), (.bool false)])
         (.ret [(.var 110), (.var 111), (.var 112), (.var 126), (.var 127), (.var 128), (.var 142), (.var 143), (.var 144), (.var 158), (.var 159), (.var 160), (.var 174), (.var 175), (.var 176), (.var 190), (.var 191), (.var 192), (.int .i64 0), (.int .i64 0), (.int .i64 0), (.int .i64 0), (.int .i64 0), (.int .i64 0), (.int .i64 0), (.int .i64 0), (.int .i64 0), (.int .i64 0), (.int .i64 0), (.int .i64 0), (.int .i64 0), (.int .i64 0), (.int .i64 0), (.int .i64 0), (.int .i64 0), (.int .i64 0), (.int .i64 0), (.int .i64 0), (.int .i64 0), (.int .i64 0), (.int .i64 0), (.int .i64 0), (.int .i64 0), (.int .i64 0), (.int .i64 0), (.int .i64 0), (.int .i64 0), (.int .i64 0), (.bool true)])))))
       (.ite (.not (.var 177))
        (.ret [(.int .i64 0), (.int .i64 0), (.int .i64 0), (.int .i64 0), (.int .i64 0), (.int .i64 0), (.int .i64 0), (.int .i64 0), (.int .i64 0), (.int .i64 0), (.int .i64 0), (.int .i64 0), (.int .i64 0), (.int .i64 0), (.int .i64 0), (.int .i64 0), (.int .i64 0), (.int .i64 0), (.int .i64 0), (.int .i64 0), (.int .i64 0), (.int .i64 0), (.int .i64 0), (.int .i64 0), (.int .i64 0), (.int .i64 0), (.int .i64 0), (.int .i64 0), (.int .i64 0), (.int .i64 0), (.int .i64 0), (.int .i64 0), (.int .i64 0), (.int .i64 0), (.int .i64 0), (.int .i64 0), (.int .i64 0), (.int .i64 0), (.int .i64 0), (.int .i64 0), (.int .i64 0), (.int .i64 0), (.int .i64 0), (.int .i64 0), (.int .i64 0), (.int .i64 0), (.int .i64 0), (.int .i64 0), (.bool false)])
        (.ret [(.var 110), (.var 111), (.var 112), (.var 126), (.var 127), (.var 128), (.var 142), (.var 143), (.var 144), (.var 158), (.var 159), (.var 160), (.var 174), (.var 175), (.var 176), (.int .i64 0), (.int .i64 0), (.int .i64 0), (.int .i64 0), (.int .i64 0), (.int .i64 0), (.int .i64 0), (.int .i64 0), (.int .i64 0), (.int .i64 0), (.int .i64 0), (.int .i64 0), (.int .i64 0), (.int .i64 0), (.int .i64 0), (.int .i64 0), (.int .i64 0), (.int .i64 0), (.int .i64 0), (.int .i64 0), (.int .i64 0), (.int .i64 0), (.int .i64 0), (.int .i64 0), (.int .i64 0), (.int .i64 0), (.int .i64 0), (.int .i64 0), (.int .i64 0), (.int .i64 0), (.int .i64 0), (.int .i64 0), (.int .i64 0), (.bool true)])))))
      (.ite (.not (.var 161))
       (.ret [(.int .i64 0), (.int .i64 0), (.int .i64 0), (.int .i64 0), (.int .i64 0), (.int .i64 0), (.int .i64 0), (.int .i64 0), (.int .i64 0), (.int .i64 0), (.int .i64 0), (.int .i64 0), (.int .i64 0), (.int .i64 0), (.int .i64 0), (.int .i64 0), (.int .i64 0), (.int .i64 0), (.int .i64 0), (.int .i64 0), (.int .i64 0), (.int .i64 0), (.int .i64 0), (.int .i64 0), (.int .i64 0), (.int .i64 0), (.int .i64 0), (.int .i64 0), (.int .i64 0), (.int .i64 0), (.int .i64 0), (.int .i64 0), (.int .i64 0), (.int .i64 0), (.int .i64 0), (.int .i64 0), (.int .i64 0), (.int .i64 0), (.int .i64 0), (.int .i64 0), (.int .i64 0), (.int .i64 0), (.int .i64 0), (.int .i64 0), (.int .i64 0), (.int .i64 0), (.int .i64 0), (.int .i64 0), (.bool false)])
       (.ret [(.var 110), (.var 111), (.var 112), (.var 126), (.var 127), (.var 128), (.var 142), (.var 143), (.var 144), (.var 158), (.var 159), (.var 160), (.int .i64 0), (.int .i64 0), (.int .i64 0), (.int .i64 0), (.int .i64 0), (.int .i64 0), (.int .i64 0), (.int .i64 0), (.int .i64 0), (.int .i64 0), (.int .i64 0), (.int .i64 0), (.int .i64 0), (.int .i64 0), (.int .i64 0), (.int .i64 0), (.int .i64 0), (.int .i64 0), (.int .i64 0), (.int .i64 0), (.int .i64 0), (.int .i64 0), (.int .i64 0), (.int .i64 0), (.int .i64 0), (.int .i64 0), (.int .i64 0), (.int .i64 0), (.int .i64 0), (.int .i64 0), (.int .i64 0), (.int .i64 0), (.int .i64 0), (.int .i64 0), (.int .i64 0), (.int .i64 0), (.bool true)])))))
     (.ite (.not (.var 145))
      (.ret [(.int .i64 0), (.int .i64 0), (.int .i64 0), (.int .i64 0), (.int .i64 0), (.int .i64 0), (.int .i64 0), (.int .i64 0), (.int .i64 0), (.int .i64 0), (.int .i64 0), (.int .i64 0), (.int .i64 0), (.int .i64 0), (.int .i64 0), (.int .i64 0), (.int .i64 0), (.int .i64 0), (.int .i64 0), (.int .i64 0), (.int .i64 0), (.int .i64 0), (.int .i64 0), (.int .i64 0), (.int .i64 0), (.int .i64 0), (.int .i64 0), (.int .i64 0), (.int .i64 0), (.int .i64 0), (.int .i64 0), (.int .i64 0), (.int .i64 0), (.int .i64 0), (.int .i64 0), (.int .i64 0), (.int .i64 0), (.int .i64 0), (.int .i64 0), (.int .i64 0), (.int .i64 0), (.int .i64 0), (.int .i64 0), (.int .i64 0), (.int .i64 0), (.int .i64 0), (.int .i64 0), (.int .i64 0), (.bool false)])
      (.ret [(.var 110), (.var 111), (.var 112), (.var 126), (.var 127), (.var 128), (.var 142), (.var 143), (.var 144), (.int .i64 0), (.int .i64 0), (.int .i64 0), (.int .i64 0), (.int .i64 0), (.int .i64 0), (.int .i64 0), (.int .i64 0), (.int .i64 0), (.int .i64 0), (.int .i64 0), (.int .i64 0), (.int .i64 0), (.int .i64 0), (.int .i64 0), (.int .i64 0), (.int .i64 0), (.int .i64 0), (.int .i64 0), (.int .i64 0), (.int .i64 0), (.int .i64 0), (.int .i64 0), (.int .i64 0), (.int .i64 0), (.int .i64 0), (.int .i64 0), (.int .i64 0), (.int .i64 0), (.int .i64 0), (.int .i64 0), (.int .i64 0), (.int .i64 0), (.int .i64 0), (.int .i64 0), (.int .i64 0), (.int .i64 0), (.int .i64 0), (.int .i64 0), (.bool true)])))))
    (.ite (.not (.var 129))
     (.ret [(.int .i64 0), (.int .i64 0), (.int .i64 0), (.int .i64 0), (.int .i64 0), (.int .i64 0), (.int .i64 0), (.int .i64 0), (.int .i64 0), (.int .i64 0), (.int .i64 0), (.int .i64 0), (.int .i64 0), (.int .i64 0), (.int .i64 0), (.int .i64 0), (.int .i64 0), (.int .i64 0), (.int .i64 0), (.int .i64 0), (.int .i64 0), (.int .i64 0), (.int .i64 0), (.int .i64 0), (.int .i64 0), (.int .i64 0), (.int .i64 0), (.int .i64 0), (.int .i64 0), (.int .i64 0), (.int .i64 0), (.int .i64 0), (.int .i64 0), (.int .i64 0), (.int .i64 0), (.int .i64 0), (.int .i64 0), (.int .i64 0), (.int .i64 0), (.int .i64 0), (.int .i64 0), (.int .i64 0), (.int .i64 0), (.int .i64 0), (.int .i64 0), (.int .i64 0), (.int .i64 0), (.int .i64 0), (.bool false)])
     (.ret [(.var 110), (.var 111), (.var 112), (.var 126), (.var 127), (.var 128), (.int .i64 0), (.int .i64 0), (.int .i64 0), (.int .i64 0), (.int .i64 0), (.int .i64 0), (.int .i64 0), (.int .i64 0), (.int .i64 0), (.int .i64 0), (.int .i64 0), (.int .i64 0), (.int .i64 0), (.int .i64 0), (.int .i64 0), (.int .i64 0), (.int .i64 0), (.int .i64 0), (.int .i64 0), (.int .i64 0), (.int .i64 0), (.int .i64 0), (.int .i64 0), (.int .i64 0), (.int .i64 0), (.int .i64 0), (.int .i64 0), (.int .i64 0), (.int .i64 0), (.int .i64 0), (.int .i64 0), (.int .i64 0), (.int .i64 0), (.int .i64 0), (.int .i64 0), (.int .i64 0), (.int .i64 0), (.int .i64 0), (.int .i64 0), (.int .i64 0), (.int .i64 0), (.int .i64 0), (.bool true)])))))
   (.ite (.not (.var 113))
    (.ret [(.int .i64 0), (.int .i64 0), (.int .i64 0), (.int .i64 0), (.int .i64 0), (.int .i64 0), (.int .i64 0), (.int .i64 0), (.int .i64 0), (.int .i64 0), (.int .i64 0), (.int .i64 0), (.int .i64 0), (.int .i64 0), (.int .i64 0), (.int .i64 0), (.int .i64 0), (.int .i64 0), (.int .i64 0), (.int .i64 0), (.int .i64 0), (.int .i64 0), (.int .i64 0), (.int .i64 0), (.int .i64 0), (.int .i64 0), (.int .i64 0), (.int .i64 0), (.int .i64 0), (.int .i64 0), (.int .i64 0), (.int .i64 0), (.int .i64 0), (.int .i64 0), (.int .i64 0), (.int .i64 0), (.int .i64 0), (.int .i64 0), (.int .i64 0), (.int .i64 0), (.int .i64 0), (.int .i64 0), (.int .i64 0), (.int .i64 0), (.int .i64 0), (.int .i64 0), (.int .i64 0), (.int .i64 0), (.bool false)])
    (.ret [(.var 110), (.var 111), (.var 112), (.int .i64 0), (.int .i64 0), (.int .i64 0), (.int .i64 0), (.int .i64 0), (.int .i64 0), (.int .i64 0), (.int .i64 0), (.int .i64 0), (.int .i64 0), (.int .i64 0), (.int .i64 0), (.int .i64 0), (.int .i64 0), (.int .i64 0), (.int .i64 0), (.int .i64 0), (.int .i64 0), (.int .i64 0), (.int .i64 0), (.int .i64 0), (.int .i64 0), (.int .i64 0), (.int .i64 0), (.int .i64 0), (.int .i64 0), (.int .i64 0), (.int .i64 0), (.int .i64 0), (.int .i64 0), (.int .i64 0), (.int .i64 0), (.int .i64 0), (.int .i64 0), (.int .i64 0), (.int .i64 0), (.int .i64 0), (.int .i64 0), (.int .i64 0), (.int .i64 0), (.int .i64 0), (.int .i64 0), (.int .i64 0), (.int .i64 0), (.int .i64 0), (.bool true)])))))
  (.ite (.not (.ite (.var 96) (.var 97) (.bool false)))
   (.ret [(.int .i64 0), (.int .i64 0), (.int .i64 0), (.int .i64 0), (.int .i64 0), (.int .i64 0), (.int .i64 0), (.int .i64 0), (.int .i64 0), (.int .i64 0), (.int .i64 0), (.int .i64 0), (.int .i64 0), (.int .i64 0), (.int .i64 0), (.int .i64 0), (.int .i64 0), (.int .i64 0), (.int .i64 0), (.int .i64 0), (.int .i64 0), (.int .i64 0), (.int .i64 0), (.int .i64 0), (.int .i64 0), (.int .i64 0), (.int .i64 0), (.int .i64 0), (.int .i64 0), (.int .i64 0), (.int .i64 0), (.int .i64 0), (.int .i64 0), (.int .i64 0), (.int .i64 0), (.int .i64 0), (.int .i64 0), (.int .i64 0), (.int .i64 0), (.int .i64 0), (.int .i64 0), (.int .i64 0), (.int .i64 0), (.int .i64 0), (.int .i64 0), (.int .i64 0), (.int .i64 0), (.int .i64 0), (.bool false)])
   (.ret [(.int .i64 0), (.int .i64 0), (.int .i64 0), (.int .i64 0), (.int .i64 0), (.int .i64 0), (.int .i64 0), (.int .i64 0), (.int .i64 0), (.int .i64 0), (.int .i64 0), (.int .i64 0), (.int .i64 0), (.int .i64 0), (.int .i64 0), (.int .i64 0), (.int .i64 0), (.int .i64 0), (.int .i64 0), (.int .i64 0), (.int .i64 0), (.int .i64 0), (.int .i64 0), (.int .i64 0), (.int .i64 0), (.int .i64 0), (.int .i64 0), (.int .i64 0), (.int .i64 0), (.int .i64 0), (.int .i64 0), (.int .i64 0), (.int .i64 0), (.int .i64 0), (.int .i64 0), (.int .i64 0), (.int .i64 0), (.int .i64 0), (.int .i64 0), (.int .i64 0), (.int .i64 0), (.int .i64 0), (.int .i64 0), (.int .i64 0), (.int .i64 0), (.int .i64 0), (.int .i64 0), (.int .i64 0), (.bool true)]))))
def Fs_sTableTimes : List Fun1 := [G_sTableValid, F_l6tOf0, F_l6tOf1, F_l6tOf2, F_l6tOf3, G_l6tRow]
def F_sTableTimes : Fun1 := ofTree Fs_sTableTimes tr_sTableTimes
def G_sTableTimes : Fun1 := ⟨fun _ => True, fun ins => ttW (tabQ (fun k => q3 ins (3 * k)) && tabQ (fun k => q3 ins (48 + 3 * k))) (dotK (fun k => q3 ins (3 * k)) (fun k => q3 ins (48 + 3 * k)))⟩
theorem out_sTableTimes : (fun (g : Nat → Int) => evalT' Fs_sTableTimes tr_sTableTimes (ivs g 0 96)) = fun g =>
    nestS (fun k s => cellS' (rowF (fun k => q3 (ivs g 0 96) (3 * k)) (k / 4)) (colF (fun k => q3 (ivs g 0 96) (48 + 3 * k)) (k % 4)) s) 16 0 [] (andG (tabQ fun k => q3 (ivs g 0 96) (3 * k)) (tabQ fun k => q3 (ivs g 0 96) (48 + 3 * k))) := by kernel_rfl
theorem ttS_fin (a b : Nat → Q) : nestS (fun k s => cellS' (rowF a (k / 4)) (colF b (k % 4)) s) 16 0 [] (andG (tabQ a) (tabQ b)) = ttV (tabQ a && tabQ b) (dotK a b) := by
  rw [andG_eq]
  exact ttS_eq (d := dotK a b) (fun k s => by simp only [cellS'_eq]; exact cellS_spec _ _ s) _
theorem as_sTableTimes (ins : List Value) (ht : TypedL (intTs 96 ++ []) ins) (_ : G_sTableTimes.pre ins) : F_sTableTimes.pre ins ∧ F_sTableTimes.out ins = G_sTableTimes.out ins := by
  obtain ⟨g, r, rfl, h1, _⟩ := ints_lit 96 0 ht
  obtain rfl := ints0 h1
  rw [List.append_nil]
  refine ⟨okT_free (by intro F hF ins; simp only [Fs_sTableTimes, List.mem_cons, List.not_mem_nil, or_false] at hF; rcases hF with rfl | rfl | rfl | rfl | rfl | rfl <;> trivial) _ _ (by kernel_rfl), (evalT_sel (lens := [1]) (Lens.cons (fun _ => rfl) Lens.nil) _ _ (by kernel_rfl)).trans ((congrFun out_sTableTimes g).trans ?_)⟩
  exact (ttS_fin _ _).trans (ttV_eq _ _)
def tr_l3Inner : Tr :=
  (.evs [.call 0 [(.var 0), (.var 1), (.var 2), (.var 3), (.var 4), (.var 5)] none 4]
  (.evs [.call 0 [(.var 6), (.var 7), (.var 8), (.var 9), (.var 10), (.var 11)] none 4]
  (.ite (.ite (.not (.var 15)) (.bool true) (.not (.var 19)))
  (.ret [(.int .i64 0), (.int .i64 0), (.int .i64 0), (.bool false)])
  (.evs [.call 1 [(.var 12), (.var 13), (.var 14), (.var 16), (.var 17), (.var 18)] none 4]
   (.ret [(.var 20), (.var 21), (.var 22), (.var 23)])))))
def Fs_l3Inner : List Fun1 := [G_sFracTimes, G_sFracAdd]
def F_l3Inner : Fun1 := ofTree Fs_l3Inner tr_l3Inner
def G_l3Inner : Fun1 := ⟨fun _ => True, fun ins => fr4 (mixQ (q3 ins 0) (q3 ins 3) (q3 ins 6) (q3 ins 9))⟩
theorem as_l3Inner (ins : List Value) (ht : TypedL (intTs 12 ++ []) ins) (_ : G_l3Inner.pre ins) : F_l3Inner.pre ins ∧ F_l3Inner.out ins = G_l3Inner.out ins := by
  obtain ⟨g, r, rfl, h1, _⟩ := ints_lit 12 0 ht
  obtain rfl := ints0 h1
  rw [List.append_nil]
  simp only [ivs, F_l3Inner, G_l3Inner, tr_l3Inner, Fs_l3Inner, G_sFracTimes, G_sFracAdd, mixQ, q3, fr4, ofTree, okT, okE, evalT, evalE, evsIn, ev, callF, preF, hasF, needs, i0, b0, toI_int, toB_bool, List.getD_cons_zero, List.getD_cons_succ, List.cons_append, List.nil_append, List.replicate, if_true, if_false, Bool.false_eq_true, and_true, true_and, implies_true, forall_const, false_implies, cmpI, Bool.not_true, Bool.not_false, Bool.true_and, Bool.false_and, Bool.and_true, Bool.and_false, reduceIte, List.append_nil, reduceCtorEq]
  cases h1 : timesQ (g 0, g (0 + 1), g (0 + 1 + 1)) (g (0 + 1 + 1 + 1), g (0 + 1 + 1 + 1 + 1), g (0 + 1 + 1 + 1 + 1 + 1)) with
  | none => simp [zq]
  | some x =>
    cases h2 : timesQ (g (0 + 1 + 1 + 1 + 1 + 1 + 1), g (0 + 1 + 1 + 1 + 1 + 1 + 1 + 1), g (0 + 1 + 1 + 1 + 1 + 1 + 1 + 1 + 1)) (g (0 + 1 + 1 + 1 + 1 + 1 + 1 + 1 + 1 + 1), g (0 + 1 + 1 + 1 + 1 + 1 + 1 + 1 + 1 + 1 + 1), g (0 + 1 + 1 + 1 + 1 + 1 + 1 + 1 + 1 + 1 + 1 + 1)) with
    | none => simp [zq]
    | some y => simp
def tr_iMatValid : Tr :=
  (.evs [.call 0 [(.var 0), (.var 1), (.var 2)] none 1]
  (.ite (.not (.var 12))
  (.ret [(.bool false)])
  (.evs [.call 0 [(.var 3), (.var 4), (.var 5)] none 1]
   (.ite (.not (.var 13))
   (.ret [(.bool false)])
   (.evs [.call 0 [(.var 6), (.var 7), (.var 8)] none 1]
    (.ite (.not (.var 14))
    (.ret [(.bool false)])
    (.evs [.call 0 [(.var 9), (.var 10), (.var 11)] none 1]
     (.ite (.not (.var 15))
     (.ret [(.bool false)])
     (.ret [(.bool true)])))))))))
def Fs_iMatValid : List Fun1 := [G_iFracValid]
def F_iMatValid : Fun1 := ofTree Fs_iMatValid tr_iMatValid
def G_iMatValid : Fun1 := ⟨fun _ => True, fun ins => [.bool (matQ fun k => q3 ins (3 * k))]⟩
theorem out_iMatValid : (fun (g : Nat → Int) => F_iMatValid.out (ivs g 0 12)) = fun g => nestC (fun k => .bool (!validQ (q3 (ivs g 0 12) (3 * k)))) 0 4 := by kernel_rfl
theorem as_iMatValid (ins : List Value) (ht : TypedL (intTs 12 ++ []) ins) (_ : G_iMatValid.pre ins) : F_iMatValid.pre ins ∧ F_iMatValid.out ins = G_iMatValid.out ins := by
  obtain ⟨g, r, rfl, h1, _⟩ := ints_lit 12 0 ht
  obtain rfl := ints0 h1
  rw [List.append_nil]
  refine ⟨okT_free (by intro F hF ins; simp only [Fs_iMatValid, List.mem_singleton] at hF; rw [hF]; trivial) _ _ (by kernel_rfl), (congrFun out_iMatValid g).trans ?_⟩
  exact nestC_eq (fun k => rfl) 4 0
def tr_sMatValid : Tr :=
  (.evs [.call 0 [(.var 0), (.var 1), (.var 2)] none 1]
  (.ite (.not (.var 12))
  (.ret [(.bool false)])
  (.evs [.call 0 [(.var 3), (.var 4), (.var 5)] none 1]
   (.ite (.not (.var 13))
   (.ret [(.bool false)])
   (.evs [.call 0 [(.var 6), (.var 7), (.var 8)] none 1]
    (.ite (.not (.var 14))
    (.ret [(.bool false)])
    (.evs [.call 0 [(.var 9), (.var 10), (.var 11)] none 1]
     (.ite (.not (.var 15))
     (.ret [(.bool false)])
     (.ret [(.bool true)])))))))))
def Fs_sMatValid : List Fun1 := [G_sFracValid]
def F_sMatValid : Fun1 := ofTree Fs_sMatValid tr_sMatValid
def G_sMatValid : Fun1 := ⟨fun _ => True, fun ins => [.bool (matQ fun k => q3 ins (3 * k))]⟩
theorem out_sMatValid : (fun (g : Nat → Int) => F_sMatValid.out (ivs g 0 12)) = fun g => nestC (fun k => .bool (!validQ (q3 (ivs g 0 12) (3 * k)))) 0 4 := by kernel_rfl
theorem as_sMatValid (ins : List Value) (ht : TypedL (intTs 12 ++ []) ins) (_ : G_sMatValid.pre ins) : F_sMatValid.pre ins ∧ F_sMatValid.out ins = G_sMatValid.out ins := by
  obtain ⟨g, r, rfl, h1, _⟩ := ints_lit 12 0 ht
  obtain rfl := ints0 h1
  rw [List.append_nil]
  refine ⟨okT_free (by intro F hF ins; simp only [Fs_sMatValid, List.mem_singleton] at hF; rw [hF]; trivial) _ _ (by kernel_rfl), (congrFun out_sMatValid g).trans ?_⟩
  exact nestC_eq (fun k => rfl) 4 0
def tr_iFracLess : Tr :=
  (.evs [.call 0 [(.var 0), (.var 1), (.var 2)] none 1,
    .call 0 [(.var 3), (.var 4), (.var 5)] (some (.not (.not (.var 6)))) 1]
  (.ite (.ite (.not (.var 6)) (.bool true) (.not (.var 7)))
  (.ret [(.int .i64 0), (.int .i64 0), (.int .i64 0), (.bool false)])
  (.evs [.call 1 [(.ar .sub .i64 (.ar .mul .i64 (.var 0) (.var 5)) (.ar .mul .i64 (.var 3) (.var 2))), (.ar .sub .i64 (.ar .mul .i64 (.var 1) (.var 5)) (.ar .mul .i64 (.var 4) (.var 2))), (.ar .mul .i64 (.var 2) (.var 5))] none 4]
   (.ret [(.var 8), (.var 9), (.var 10), (.var 11)]))))
def Fs_iFracLess : List Fun1 := [G_iFracValid, G_lowest]
def F_iFracLess : Fun1 := ofTree Fs_iFracLess tr_iFracLess
def G_iFracLess : Fun1 := ⟨fun _ => True, fun ins => fr4 (lessQ (q3 ins 0) (q3 ins 3))⟩
theorem as_iFracLess (ins : List Value) (ht : TypedL [.int .i64, .int .i64, .int .i64, .int .i64, .int .i64, .int .i64] ins) (_ : G_iFracLess.pre ins) : F_iFracLess.pre ins ∧ F_iFracLess.out ins = G_iFracLess.out ins := by
  obtain ⟨a, b, c, x, y, z, rfl, _⟩ := ints6 ht
  simp only [F_iFracLess, G_iFracLess, tr_iFracLess, Fs_iFracLess, G_iFracValid, G_lowest, lessQ, validQ, q3, arI, ofTree, okT, okE, evalT, evalE, evsIn, ev, callF, preF, hasF, needs, i0, b0, toI_int, toB_bool, List.getD_cons_zero, List.getD_cons_succ, List.cons_append, List.nil_append, List.replicate, if_true, if_false, Bool.false_eq_true, and_true, true_and, implies_true, forall_const, false_implies, cmpI, Bool.not_true, Bool.not_false, Bool.true_and, Bool.false_and, Bool.and_true, Bool.and_false, reduceIte, List.append_nil, reduceCtorEq]
  cases h : validI a b c
  · simp [h, fr4, zq]
  · cases k : validI x y z
    · simp [h, k, fr4, zq]
    · obtain ⟨e1, e2, e3, e4, e5, e6, e7, e8, e9, l1, l2⟩ := sum_facts h k
      simp only [h, k, e1, e2, e3, e4, e5, e8, e9, ofTree, okT, okE, evalT, evalE, evsIn, ev, callF, preF, hasF, needs, i0, b0, toI_int, toB_bool, List.getD_cons_zero, List.getD_cons_succ, List.cons_append, List.nil_append, List.replicate, if_true, if_false, Bool.false_eq_true, and_true, true_and, implies_true, forall_const, false_implies, cmpI, Bool.not_true, Bool.not_false, Bool.true_and, Bool.false_and, Bool.and_true, Bool.and_false, reduceIte, List.append_nil, reduceCtorEq]
      simp [fr4, l2]
def tr_iFracMirror : Tr :=
  (.evs [.call 0 [(.var 0), (.var 1), (.var 2)] none 1]
  (.ite (.not (.var 3))
  (.ret [(.int .i64 0), (.int .i64 0), (.int .i64 0), (.bool false)])
  (.ret [(.var 0), (.ar .sub .i64 (.int .i64 0) (.var 1)), (.var 2), (.bool true)])))
def Fs_iFracMirror : List Fun1 := [G_iFracValid]
def F_iFracMirror : Fun1 := ofTree Fs_iFracMirror tr_iFracMirror
def G_iFracMirror : Fun1 := ⟨fun _ => True, fun ins => fr4 (mirQ (q3 ins 0))⟩
theorem as_iFracMirror (ins : List Value) (ht : TypedL [.int .i64, .int .i64, .int .i64] ins) (_ : G_iFracMirror.pre ins) : F_iFracMirror.pre ins ∧ F_iFracMirror.out ins = G_iFracMirror.out ins := by
  obtain ⟨a, b, c, rfl, _⟩ := ints3 ht
  simp only [F_iFracMirror, G_iFracMirror, tr_iFracMirror, Fs_iFracMirror, G_iFracValid, mirQ, validQ, q3, arI, ofTree, okT, okE, evalT, evalE, evsIn, ev, callF, preF, hasF, needs, i0, b0, toI_int, toB_bool, List.getD_cons_zero, List.getD_cons_succ, List.cons_append, List.nil_append, List.replicate, if_true, if_false, Bool.false_eq_true, and_true, true_and, implies_true, forall_const, false_implies, cmpI, Bool.not_true, Bool.not_false, Bool.true_and, Bool.false_and, Bool.and_true, Bool.and_false, reduceIte, List.append_nil, reduceCtorEq]
  cases h : validI a b c
  · simp [fr4, zq]
  · obtain ⟨b1, b2, b3⟩ := valid_bounds h
    have e : IntKind.i64.wrap (-b) = -b := wrap_in (by omega)
    simp [fr4, e]
def tr_sFracMirror : Tr :=
  (.evs [.call 0 [(.var 0), (.var 1), (.var 2)] none 1]
  (.ite (.not (.var 3))
  (.ret [(.int .i64 0), (.int .i64 0), (.int .i64 0), (.bool false)])
  (.ret [(.var 0), (.ar .sub .i64 (.int .i64 0) (.var 1)), (.var 2), (.bool true)])))
def Fs_sFracMirror : List Fun1 := [G_sFracValid]
def F_sFracMirror : Fun1 := ofTree Fs_sFracMirror tr_sFracMirror
def G_sFracMirror : Fun1 := ⟨fun _ => True, fun ins => fr4 (mirQ (q3 ins 0))⟩
theorem as_sFracMirror (ins : List Value) (ht : TypedL [.int .i64, .int .i64, .int .i64] ins) (_ : G_sFracMirror.pre ins) : F_sFracMirror.pre ins ∧ F_sFracMirror.out ins = G_sFracMirror.out ins := by
  obtain ⟨a, b, c, rfl, _⟩ := ints3 ht
  simp only [F_sFracMirror, G_sFracMirror, tr_sFracMirror, Fs_sFracMirror, G_sFracValid, mirQ, validQ, q3, arI, ofTree, okT, okE, evalT, evalE, evsIn, ev, callF, preF, hasF, needs, i0, b0, toI_int, toB_bool, List.getD_cons_zero, List.getD_cons_succ, List.cons_append, List.nil_append, List.replicate, if_true, if_false, Bool.false_eq_true, and_true, true_and, implies_true, forall_const, false_implies, cmpI, Bool.not_true, Bool.not_false, Bool.true_and, Bool.false_and, Bool.and_true, Bool.and_false, reduceIte, List.append_nil, reduceCtorEq]
  cases h : validI a b c
  · simp [fr4, zq]
  · obtain ⟨b1, b2, b3⟩ := valid_bounds h
    have e : IntKind.i64.wrap (-b) = -b := wrap_in (by omega)
    simp [fr4, e]
def tr_iFracPower : Tr :=
  (.evs [.call 0 [(.var 0), (.var 1), (.var 2)] none 1]
  (.ite (.not (.var 3))
  (.ret [(.int .i64 0), (.int .i64 0), (.int .i64 0), (.bool false)])
  (.evs [.call 1 [(.ar .add .i64 (.ar .mul .i64 (.var 0) (.var 0)) (.ar .mul .i64 (.var 1) (.var 1))), (.int .i64 0), (.ar .mul .i64 (.var 2) (.var 2))] none 4]
   (.ret [(.var 4), (.var 5), (.var 6), (.var 7)]))))
def Fs_iFracPower : List Fun1 := [G_iFracValid, G_lowest]
def F_iFracPower : Fun1 := ofTree Fs_iFracPower tr_iFracPower
def G_iFracPower : Fun1 := ⟨fun _ => True, fun ins => fr4 (powQ (q3 ins 0))⟩
theorem as_iFracPower (ins : List Value) (ht : TypedL [.int .i64, .int .i64, .int .i64] ins) (_ : G_iFracPower.pre ins) : F_iFracPower.pre ins ∧ F_iFracPower.out ins = G_iFracPower.out ins := by
  obtain ⟨a, b, c, rfl, _⟩ := ints3 ht
  simp only [F_iFracPower, G_iFracPower, tr_iFracPower, Fs_iFracPower, G_iFracValid, G_lowest, powQ, validQ, q3, arI, ofTree, okT, okE, evalT, evalE, evsIn, ev, callF, preF, hasF, needs, i0, b0, toI_int, toB_bool, List.getD_cons_zero, List.getD_cons_succ, List.cons_append, List.nil_append, List.replicate, if_true, if_false, Bool.false_eq_true, and_true, true_and, implies_true, forall_const, false_implies, cmpI, Bool.not_true, Bool.not_false, Bool.true_and, Bool.false_and, Bool.and_true, Bool.and_false, reduceIte, List.append_nil, reduceCtorEq]
  cases h : validI a b c
  · simp [fr4, zq]
  · obtain ⟨b1, b2, b3⟩ := valid_bounds h
    have m1 := mulB b1 b1
    have m2 := mulB b2 b2
    have m3 := denB b3 b3
    have p1 := sq_nonneg a
    have p2 := sq_nonneg b
    have e1 : IntKind.i64.wrap (a * a) = a * a := wrap_in (by omega)
    have e2 : IntKind.i64.wrap (b * b) = b * b := wrap_in (by omega)
    have e3 : IntKind.i64.wrap (c * c) = c * c := wrap_in (by omega)
    have e4 : IntKind.i64.wrap (a * a + b * b) = a * a + b * b := wrap_in (by omega)
    have l : lowOk (a * a + b * b) 0 (c * c) := by unfold lowOk; omega
    simp [fr4, e1, e2, e3, e4, l]
def tr_iHalf : Tr :=
  (.evs [.call 0 [(.var 0), (.var 1), (.var 2)] none 1,
    .call 0 [(.int .i64 2), (.int .i64 0), (.int .i64 1)] (some (.not (.not (.var 3)))) 1]
  (.ite (.ite (.ite (.not (.var 3)) (.bool true) (.not (.var 4))) (.bool true) (.ite (.bool false) (.ite (.bool true) (.bool true) (.bool false)) (.bool false)))
  (.ret [(.int .i64 0), (.int .i64 0), (.int .i64 0), (.bool false)])
  (.evs [.call 1 [(.int .i64 2), (.int .i64 0), (.int .i64 4)] none 4]
   (.ite (.not (.var 8))
   (.ret [(.int .i64 0), (.int .i64 0), (.int .i64 0), (.bool false)])
   (.evs [.call 2 [(.var 0), (.var 1), (.var 2), (.var 5), (.var 6), (.var 7)] none 4]
    (.ret [(.var 9), (.var 10), (.var 11), (.var 12)]))))))
def Fs_iHalf : List Fun1 := [G_iFracValid, G_lowest, G_iFracTimes]
def F_iHalf : Fun1 := ofTree Fs_iHalf tr_iHalf
def G_iHalf : Fun1 := ⟨fun _ => True, fun ins => fr4 (halfQ (q3 ins 0))⟩
theorem as_iHalf (ins : List Value) (ht : TypedL [.int .i64, .int .i64, .int .i64] ins) (_ : G_iHalf.pre ins) : F_iHalf.pre ins ∧ F_iHalf.out ins = G_iHalf.out ins := by
  obtain ⟨a, b, c, rfl, _⟩ := ints3 ht
  have h2 : validI 2 0 1 = true := by decide
  have h3 : lowI 2 0 4 = some (1, 0, 2) := by decide
  have l : lowOk 2 0 4 := by unfold lowOk; omega
  simp only [F_iHalf, G_iHalf, tr_iHalf, Fs_iHalf, G_iFracValid, G_lowest, G_iFracTimes, halfQ, validQ, q3, fr4, h2, h3, ofTree, okT, okE, evalT, evalE, evsIn, ev, callF, preF, hasF, needs, i0, b0, toI_int, toB_bool, List.getD_cons_zero, List.getD_cons_succ, List.cons_append, List.nil_append, List.replicate, if_true, if_false, Bool.false_eq_true, and_true, true_and, implies_true, forall_const, false_implies, cmpI, Bool.not_true, Bool.not_false, Bool.true_and, Bool.false_and, Bool.and_true, Bool.and_false, reduceIte, List.append_nil, reduceCtorEq]
  cases h : validI a b c
  · have : timesQ (a, b, c) (1, 0, 2) = none := by simp [timesQ, validQ, h]
    simp [this, zq]
  · simp [l]
def tr_whole2 : Tr :=
  (.ret [])
def Fs_whole2 : List Fun1 := []
def F_whole2 : Fun1 := ofTree Fs_whole2 tr_whole2
def tr_less : Tr :=
  (.evs [.call 0 [(.var 0), (.var 1), (.var 2), (.var 3), (.var 4), (.var 5)] none 4,
    .call 1 [(.var 7), (.var 8), (.var 9), (.var 10), (.var 6)] none 4]
  (.ret [(.var 11), (.var 12), (.var 13), (.var 14)]))
def Fs_less : List Fun1 := [G_iFracLess, F_keep]
def F_less : Fun1 := ofTree Fs_less tr_less
def G_less : Fun1 := ⟨fun _ => True, fun ins => fr3 (lessQ (q3 ins 0) (q3 ins 3)) ++ [.bool (b0 ins 6 || !(lessQ (q3 ins 0) (q3 ins 3)).isSome)]⟩
theorem as_less (ins : List Value) (ht : TypedL [.int .i64, .int .i64, .int .i64, .int .i64, .int .i64, .int .i64, .bool] ins) (_ : G_less.pre ins) : F_less.pre ins ∧ F_less.out ins = G_less.out ins := by
  obtain ⟨a, r1, rfl, _, ht1⟩ := int_cons ht
  obtain ⟨b, r2, rfl, _, ht2⟩ := int_cons ht1
  obtain ⟨c, r3, rfl, _, ht3⟩ := int_cons ht2
  obtain ⟨x, r4, rfl, _, ht4⟩ := int_cons ht3
  obtain ⟨y, r5, rfl, _, ht5⟩ := int_cons ht4
  obtain ⟨z, r6, rfl, _, ht6⟩ := int_cons ht5
  obtain ⟨t, r7, rfl, ht7⟩ := bool_cons ht6
  obtain rfl := ints0 ht7
  simp only [F_less, G_less, tr_less, Fs_less, G_iFracLess, F_keep, tr_keep, Fs_keep, q3, fr4, fr3, ofTree, okT, okE, evalT, evalE, evsIn, ev, callF, preF, hasF, needs, i0, b0, toI_int, toB_bool, List.getD_cons_zero, List.getD_cons_succ, List.cons_append, List.nil_append, List.replicate, if_true, if_false, Bool.false_eq_true, and_true, true_and, implies_true, forall_const, false_implies, cmpI, Bool.not_true, Bool.not_false, Bool.true_and, Bool.false_and, Bool.and_true, Bool.and_false, reduceIte, List.append_nil, reduceCtorEq]
  cases h : lessQ (a, b, c) (x, y, z) <;> simp [zq]
def tr_mirror : Tr :=
  (.evs [.call 0 [(.var 0), (.var 1), (.var 2)] none 4,
    .call 1 [(.var 4), (.var 5), (.var 6), (.var 7), (.var 3)] none 4]
  (.ret [(.var 8), (.var 9), (.var 10), (.var 11)]))
def Fs_mirror : List Fun1 := [G_iFracMirror, F_keep]
def F_mirror : Fun1 := ofTree Fs_mirror tr_mirror
def G_mirror : Fun1 := ⟨fun _ => True, fun ins => fr3 (mirQ (q3 ins 0)) ++ [.bool (b0 ins 3 || !(mirQ (q3 ins 0)).isSome)]⟩
theorem as_mirror (ins : List Value) (ht : TypedL [.int .i64, .int .i64, .int .i64, .bool] ins) (_ : G_mirror.pre ins) : F_mirror.pre ins ∧ F_mirror.out ins = G_mirror.out ins := by
  obtain ⟨a, r1, rfl, _, ht1⟩ := int_cons ht
  obtain ⟨b, r2, rfl, _, ht2⟩ := int_cons ht1
  obtain ⟨c, r3, rfl, _, ht3⟩ := int_cons ht2
  obtain ⟨t, r7, rfl, ht7⟩ := bool_cons ht3
  obtain rfl := ints0 ht7
  simp only [F_mirror, G_mirror, tr_mirror, Fs_mirror, G_iFracMirror, F_keep, tr_keep, Fs_keep, q3, fr4, fr3, ofTree, okT, okE, evalT, evalE, evsIn, ev, callF, preF, hasF, needs, i0, b0, toI_int, toB_bool, List.getD_cons_zero, List.getD_cons_succ, List.cons_append, List.nil_append, List.replicate, if_true, if_false, Bool.false_eq_true, and_true, true_and, implies_true, forall_const, false_implies, cmpI, Bool.not_true, Bool.not_false, Bool.true_and, Bool.false_and, Bool.and_true, Bool.and_false, reduceIte, List.append_nil, reduceCtorEq]
  cases h : mirQ (a, b, c) <;> simp [zq]
def tr_power : Tr :=
  (.evs [.call 0 [(.var 0), (.var 1), (.var 2)] none 4,
    .call 1 [(.var 4), (.var 5), (.var 6), (.var 7), (.var 3)] none 4]
  (.ret [(.var 8), (.var 9), (.var 10), (.var 11)]))
def Fs_power : List Fun1 := [G_iFracPower, F_keep]
def F_power : Fun1 := ofTree Fs_power tr_power
def G_power : Fun1 := ⟨fun _ => True, fun ins => fr3 (powQ (q3 ins 0)) ++ [.bool (b0 ins 3 || !(powQ (q3 ins 0)).isSome)]⟩
theorem as_power (ins : List Value) (ht : TypedL [.int .i64, .int .i64, .int .i64, .bool] ins) (_ : G_power.pre ins) : F_power.pre ins ∧ F_power.out ins = G_power.out ins := by
  obtain ⟨a, r1, rfl, _, ht1⟩ := int_cons ht
  obtain ⟨b, r2, rfl, _, ht2⟩ := int_cons ht1
  obtain ⟨c, r3, rfl, _, ht3⟩ := int_cons ht2
  obtain ⟨t, r7, rfl, ht7⟩ := bool_cons ht3
  obtain rfl := ints0 ht7
  simp only [F_power, G_power, tr_power, Fs_power, G_iFracPower, F_keep, tr_keep, Fs_keep, q3, fr4, fr3, ofTree, okT, okE, evalT, evalE, evsIn, ev, callF, preF, hasF, needs, i0, b0, toI_int, toB_bool, List.getD_cons_zero, List.getD_cons_succ, List.cons_append, List.nil_append, List.replicate, if_true, if_false, Bool.false_eq_true, and_true, true_and, implies_true, forall_const, false_implies, cmpI, Bool.not_true, Bool.not_false, Bool.true_and, Bool.false_and, Bool.and_true, Bool.and_false, reduceIte, List.append_nil, reduceCtorEq]
  cases h : powQ (a, b, c) <;> simp [zq]
def tr_overTwo : Tr :=
  (.evs [.call 0 [(.var 0), (.var 1), (.var 2)] none 4,
    .call 1 [(.var 4), (.var 5), (.var 6), (.var 7), (.var 3)] none 4]
  (.ret [(.var 8), (.var 9), (.var 10), (.var 11)]))
def Fs_overTwo : List Fun1 := [G_iHalf, F_keep]
def F_overTwo : Fun1 := ofTree Fs_overTwo tr_overTwo
def G_overTwo : Fun1 := ⟨fun _ => True, fun ins => fr3 (halfQ (q3 ins 0)) ++ [.bool (b0 ins 3 || !(halfQ (q3 ins 0)).isSome)]⟩
theorem as_overTwo (ins : List Value) (ht : TypedL [.int .i64, .int .i64, .int .i64, .bool] ins) (_ : G_overTwo.pre ins) : F_overTwo.pre ins ∧ F_overTwo.out ins = G_overTwo.out ins := by
  obtain ⟨a, r1, rfl, _, ht1⟩ := int_cons ht
  obtain ⟨b, r2, rfl, _, ht2⟩ := int_cons ht1
  obtain ⟨c, r3, rfl, _, ht3⟩ := int_cons ht2
  obtain ⟨t, r7, rfl, ht7⟩ := bool_cons ht3
  obtain rfl := ints0 ht7
  simp only [F_overTwo, G_overTwo, tr_overTwo, Fs_overTwo, G_iHalf, F_keep, tr_keep, Fs_keep, q3, fr4, fr3, ofTree, okT, okE, evalT, evalE, evsIn, ev, callF, preF, hasF, needs, i0, b0, toI_int, toB_bool, List.getD_cons_zero, List.getD_cons_succ, List.cons_append, List.nil_append, List.replicate, if_true, if_false, Bool.false_eq_true, and_true, true_and, implies_true, forall_const, false_implies, cmpI, Bool.not_true, Bool.not_false, Bool.true_and, Bool.false_and, Bool.and_true, Bool.and_false, reduceIte, List.append_nil, reduceCtorEq]
  cases h : halfQ (a, b, c) <;> simp [zq]
def tr_real : Tr :=
  (.evs [.call 0 [(.var 0), (.var 1), (.var 2)] none 1]
  (.ite (.not (.var 4))
  (.ret [(.int .i64 0), (.int .i64 0), (.int .i64 0), (.bool true)])
  (.evs [.call 1 [(.var 0), (.int .i64 0), (.var 2)] none 4,
     .call 2 [(.var 5), (.var 6), (.var 7), (.var 8), (.var 3)] none 4]
   (.ret [(.var 9), (.var 10), (.var 11), (.var 12)]))))
def Fs_real : List Fun1 := [G_iFracValid, G_lowest, F_keep]
def F_real : Fun1 := ofTree Fs_real tr_real
def G_real : Fun1 := ⟨fun _ => True, fun ins => fr3 (reQ (q3 ins 0)) ++ [.bool (b0 ins 3 || !(reQ (q3 ins 0)).isSome)]⟩
theorem as_real (ins : List Value) (ht : TypedL [.int .i64, .int .i64, .int .i64, .bool] ins) (_ : G_real.pre ins) : F_real.pre ins ∧ F_real.out ins = G_real.out ins := by
  obtain ⟨a, r1, rfl, _, ht1⟩ := int_cons ht
  obtain ⟨b, r2, rfl, _, ht2⟩ := int_cons ht1
  obtain ⟨c, r3, rfl, _, ht3⟩ := int_cons ht2
  obtain ⟨t, r7, rfl, ht7⟩ := bool_cons ht3
  obtain rfl := ints0 ht7
  simp only [F_real, G_real, tr_real, Fs_real, G_iFracValid, G_lowest, F_keep, tr_keep, Fs_keep, reQ, validQ, q3, fr4, fr3, ofTree, okT, okE, evalT, evalE, evsIn, ev, callF, preF, hasF, needs, i0, b0, toI_int, toB_bool, List.getD_cons_zero, List.getD_cons_succ, List.cons_append, List.nil_append, List.replicate, if_true, if_false, Bool.false_eq_true, and_true, true_and, implies_true, forall_const, false_implies, cmpI, Bool.not_true, Bool.not_false, Bool.true_and, Bool.false_and, Bool.and_true, Bool.and_false, reduceIte, List.append_nil, reduceCtorEq]
  cases h : validI a b c
  · simp [zq]
  · obtain ⟨b1, b2, b3⟩ := valid_bounds h
    have l : lowOk a 0 c := by unfold lowOk; omega
    cases k : lowI a 0 c <;> simp [zq, l, k]
def tr_imag : Tr :=
  (.evs [.call 0 [(.var 0), (.var 1), (.var 2)] none 1]
  (.ite (.not (.var 4))
  (.ret [(.int .i64 0), (.int .i64 0), (.int .i64 0), (.bool true)])
  (.evs [.call 1 [(.var 1), (.int .i64 0), (.var 2)] none 4,
     .call 2 [(.var 5), (.var 6), (.var 7), (.var 8), (.var 3)] none 4]
   (.ret [(.var 9), (.var 10), (.var 11), (.var 12)]))))
def Fs_imag : List Fun1 := [G_iFracValid, G_lowest, F_keep]
def F_imag : Fun1 := ofTree Fs_imag tr_imag
def G_imag : Fun1 := ⟨fun _ => True, fun ins => fr3 (imQ (q3 ins 0)) ++ [.bool (b0 ins 3 || !(imQ (q3 ins 0)).isSome)]⟩
theorem as_imag (ins : List Value) (ht : TypedL [.int .i64, .int .i64, .int .i64, .bool] ins) (_ : G_imag.pre ins) : F_imag.pre ins ∧ F_imag.out ins = G_imag.out ins := by
  obtain ⟨a, r1, rfl, _, ht1⟩ := int_cons ht
  obtain ⟨b, r2, rfl, _, ht2⟩ := int_cons ht1
  obtain ⟨c, r3, rfl, _, ht3⟩ := int_cons ht2
  obtain ⟨t, r7, rfl, ht7⟩ := bool_cons ht3
  obtain rfl := ints0 ht7
  simp only [F_imag, G_imag, tr_imag, Fs_imag, G_iFracValid, G_lowest, F_keep, tr_keep, Fs_keep, imQ, validQ, q3, fr4, fr3, ofTree, okT, okE, evalT, evalE, evsIn, ev, callF, preF, hasF, needs, i0, b0, toI_int, toB_bool, List.getD_cons_zero, List.getD_cons_succ, List.cons_append, List.nil_append, List.replicate, if_true, if_false, Bool.false_eq_true, and_true, true_and, implies_true, forall_const, false_implies, cmpI, Bool.not_true, Bool.not_false, Bool.true_and, Bool.false_and, Bool.and_true, Bool.and_false, reduceIte, List.append_nil, reduceCtorEq]
  cases h : validI a b c
  · simp [zq]
  · obtain ⟨b1, b2, b3⟩ := valid_bounds h
    have l : lowOk b 0 c := by unfold lowOk; omega
    cases k : lowI b 0 c <;> simp [zq, l, k]
def tr_iPair : Tr :=
  (.evs [.call 0 [(.var 3), (.var 4), (.var 5), (.var 6)] none 4,
    .call 1 [(.var 0), (.var 1), (.var 2), (.var 7), (.var 8), (.var 9), (.var 10)] none 4]
  (.ret [(.var 11), (.var 12), (.var 13), (.var 14)]))
def Fs_iPair : List Fun1 := [G_mirror, G_times]
def F_iPair : Fun1 := ofTree Fs_iPair tr_iPair
def G_iPair : Fun1 := ⟨fun _ => True, fun ins => fr3 (pairQ (q3 ins 0) (q3 ins 3)) ++ [.bool (b0 ins 6 || !(pairQ (q3 ins 0) (q3 ins 3)).isSome)]⟩
theorem as_iPair (ins : List Value) (ht : TypedL [.int .i64, .int .i64, .int .i64, .int .i64, .int .i64, .int .i64, .bool] ins) (_ : G_iPair.pre ins) : F_iPair.pre ins ∧ F_iPair.out ins = G_iPair.out ins := by
  obtain ⟨a, r1, rfl, _, ht1⟩ := int_cons ht
  obtain ⟨b, r2, rfl, _, ht2⟩ := int_cons ht1
  obtain ⟨c, r3, rfl, _, ht3⟩ := int_cons ht2
  obtain ⟨x, r4, rfl, _, ht4⟩ := int_cons ht3
  obtain ⟨y, r5, rfl, _, ht5⟩ := int_cons ht4
  obtain ⟨z, r6, rfl, _, ht6⟩ := int_cons ht5
  obtain ⟨t, r7, rfl, ht7⟩ := bool_cons ht6
  obtain rfl := ints0 ht7
  simp only [F_iPair, G_iPair, tr_iPair, Fs_iPair, G_mirror, G_times, pairQ, q3, fr3, ofTree, okT, okE, evalT, evalE, evsIn, ev, callF, preF, hasF, needs, i0, b0, toI_int, toB_bool, List.getD_cons_zero, List.getD_cons_succ, List.cons_append, List.nil_append, List.replicate, if_true, if_false, Bool.false_eq_true, and_true, true_and, implies_true, forall_const, false_implies, cmpI, Bool.not_true, Bool.not_false, Bool.true_and, Bool.false_and, Bool.and_true, Bool.and_false, reduceIte, List.append_nil, reduceCtorEq]
  cases h : mirQ (x, y, z)
  · simp [zq, show timesQ (a, b, c) (0, 0, 0) = none from times_zq' _]
  · simp
def tr_iHalfS : Tr :=
  (.evs [.call 0 [] none 0,
    .call 1 [(.var 0), (.var 1), (.var 2), (.var 3)] none 4]
  (.ret [(.var 4), (.var 5), (.var 6), (.var 7)]))
def Fs_iHalfS : List Fun1 := [F_whole2, G_overTwo]
def F_iHalfS : Fun1 := ofTree Fs_iHalfS tr_iHalfS
def G_iHalfS : Fun1 := G_overTwo
theorem as_iHalfS (ins : List Value) (ht : TypedL [.int .i64, .int .i64, .int .i64, .bool] ins) (_ : G_iHalfS.pre ins) : F_iHalfS.pre ins ∧ F_iHalfS.out ins = G_iHalfS.out ins := by
  obtain ⟨a, r1, rfl, _, ht1⟩ := int_cons ht
  obtain ⟨b, r2, rfl, _, ht2⟩ := int_cons ht1
  obtain ⟨c, r3, rfl, _, ht3⟩ := int_cons ht2
  obtain ⟨t, r7, rfl, ht7⟩ := bool_cons ht3
  obtain rfl := ints0 ht7
  exact ⟨⟨⟨trivial, trivial, trivial⟩, trivial⟩, rfl⟩
def tr_l2SumP : Tr :=
  (.evs [.call 0 [(.var 0), (.var 1), (.var 2)] none 1,
    .call 0 [(.var 3), (.var 4), (.var 5)] (some (.not (.not (.var 6)))) 1]
  (.ite (.ite (.not (.var 6)) (.bool true) (.not (.var 7)))
  (.ret [(.int .i64 0), (.int .i64 0), (.int .i64 0), (.bool false)])
  (.evs [.call 1 [(.ar .add .i64 (.ar .mul .i64 (.var 0) (.var 5)) (.ar .mul .i64 (.ar .mul .i64 (.int .i64 1) (.var 3)) (.var 2))), (.ar .add .i64 (.ar .mul .i64 (.var 1) (.var 5)) (.ar .mul .i64 (.ar .mul .i64 (.int .i64 1) (.var 4)) (.var 2))), (.ar .mul .i64 (.var 2) (.var 5))] none 4]
   (.ret [(.var 8), (.var 9), (.var 10), (.var 11)]))))
def Fs_l2SumP : List Fun1 := [G_sFracValid, G_l2Low]
def F_l2SumP : Fun1 := ofTree Fs_l2SumP tr_l2SumP
def G_l2SumP : Fun1 := ⟨fun _ => True, fun ins => fr4 (addQ (q3 ins 0) (q3 ins 3))⟩
theorem as_l2SumP (ins : List Value) (ht : TypedL [.int .i64, .int .i64, .int .i64, .int .i64, .int .i64, .int .i64] ins) (_ : G_l2SumP.pre ins) : F_l2SumP.pre ins ∧ F_l2SumP.out ins = G_l2SumP.out ins := by
  obtain ⟨a, b, c, x, y, z, rfl, _⟩ := ints6 ht
  cases h : validI a b c
  · simp only [F_l2SumP, G_l2SumP, tr_l2SumP, Fs_l2SumP, G_sFracValid, G_l2Low, addQ, validQ, q3, arI, h, ofTree, okT, okE, evalT, evalE, evsIn, ev, callF, preF, hasF, needs, i0, b0, toI_int, toB_bool, List.getD_cons_zero, List.getD_cons_succ, List.cons_append, List.nil_append, List.replicate, if_true, if_false, Bool.false_eq_true, and_true, true_and, implies_true, forall_const, false_implies, cmpI, Bool.not_true, Bool.not_false, Bool.true_and, Bool.false_and, Bool.and_true, Bool.and_false, reduceIte, List.append_nil, reduceCtorEq]
    simp [fr4, zq]
  · cases k : validI x y z
    · simp only [F_l2SumP, G_l2SumP, tr_l2SumP, Fs_l2SumP, G_sFracValid, G_l2Low, addQ, validQ, q3, arI, h, k, ofTree, okT, okE, evalT, evalE, evsIn, ev, callF, preF, hasF, needs, i0, b0, toI_int, toB_bool, List.getD_cons_zero, List.getD_cons_succ, List.cons_append, List.nil_append, List.replicate, if_true, if_false, Bool.false_eq_true, and_true, true_and, implies_true, forall_const, false_implies, cmpI, Bool.not_true, Bool.not_false, Bool.true_and, Bool.false_and, Bool.and_true, Bool.and_false, reduceIte, List.append_nil, reduceCtorEq]
      simp [fr4, zq]
    · obtain ⟨e1, e2, e3, e4, e5, e6, e7, e8, e9, l1, l2⟩ := sum_facts h k
      obtain ⟨k1, k2, _⟩ := valid_bounds k
      have u1 : IntKind.i64.wrap (1 * x) = x := by rw [Int.one_mul]; exact wrap_in (by omega)
      have u2 : IntKind.i64.wrap (1 * y) = y := by rw [Int.one_mul]; exact wrap_in (by omega)
      simp only [F_l2SumP, G_l2SumP, tr_l2SumP, Fs_l2SumP, G_sFracValid, G_l2Low, addQ, validQ, q3, arI, h, k, u1, u2, e1, e2, e3, e4, e5, e6, e7, ofTree, okT, okE, evalT, evalE, evsIn, ev, callF, preF, hasF, needs, i0, b0, toI_int, toB_bool, List.getD_cons_zero, List.getD_cons_succ, List.cons_append, List.nil_append, List.replicate, if_true, if_false, Bool.false_eq_true, and_true, true_and, implies_true, forall_const, false_implies, cmpI, Bool.not_true, Bool.not_false, Bool.true_and, Bool.false_and, Bool.and_true, Bool.and_false, reduceIte, List.append_nil, reduceCtorEq]
      simp [fr4, l1]
def tr_l2SumM : Tr :=
  (.evs [.call 0 [(.var 0), (.var 1), (.var 2)] none 1,
    .call 0 [(.var 3), (.var 4), (.var 5)] (some (.not (.not (.var 6)))) 1]
  (.ite (.ite (.not (.var 6)) (.bool true) (.not (.var 7)))
  (.ret [(.int .i64 0), (.int .i64 0), (.int .i64 0), (.bool false)])
  (.evs [.call 1 [(.ar .add .i64 (.ar .mul .i64 (.var 0) (.var 5)) (.ar .mul .i64 (.ar .mul .i64 (.int .i64 (-1)) (.var 3)) (.var 2))), (.ar .add .i64 (.ar .mul .i64 (.var 1) (.var 5)) (.ar .mul .i64 (.ar .mul .i64 (.int .i64 (-1)) (.var 4)) (.var 2))), (.ar .mul .i64 (.var 2) (.var 5))] none 4]
   (.ret [(.var 8), (.var 9), (.var 10), (.var 11)]))))
def Fs_l2SumM : List Fun1 := [G_sFracValid, G_l2Low]
def F_l2SumM : Fun1 := ofTree Fs_l2SumM tr_l2SumM
def G_l2SumM : Fun1 := ⟨fun _ => True, fun ins => fr4 (lessQ (q3 ins 0) (q3 ins 3))⟩
theorem as_l2SumM (ins : List Value) (ht : TypedL [.int .i64, .int .i64, .int .i64, .int .i64, .int .i64, .int .i64] ins) (_ : G_l2SumM.pre ins) : F_l2SumM.pre ins ∧ F_l2SumM.out ins = G_l2SumM.out ins := by
  obtain ⟨a, b, c, x, y, z, rfl, _⟩ := ints6 ht
  cases h : validI a b c
  · simp only [F_l2SumM, G_l2SumM, tr_l2SumM, Fs_l2SumM, G_sFracValid, G_l2Low, lessQ, validQ, q3, arI, h, ofTree, okT, okE, evalT, evalE, evsIn, ev, callF, preF, hasF, needs, i0, b0, toI_int, toB_bool, List.getD_cons_zero, List.getD_cons_succ, List.cons_append, List.nil_append, List.replicate, if_true, if_false, Bool.false_eq_true, and_true, true_and, implies_true, forall_const, false_implies, cmpI, Bool.not_true, Bool.not_false, Bool.true_and, Bool.false_and, Bool.and_true, Bool.and_false, reduceIte, List.append_nil, reduceCtorEq]
    simp [fr4, zq]
  · cases k : validI x y z
    · simp only [F_l2SumM, G_l2SumM, tr_l2SumM, Fs_l2SumM, G_sFracValid, G_l2Low, lessQ, validQ, q3, arI, h, k, ofTree, okT, okE, evalT, evalE, evsIn, ev, callF, preF, hasF, needs, i0, b0, toI_int, toB_bool, List.getD_cons_zero, List.getD_cons_succ, List.cons_append, List.nil_append, List.replicate, if_true, if_false, Bool.false_eq_true, and_true, true_and, implies_true, forall_const, false_implies, cmpI, Bool.not_true, Bool.not_false, Bool.true_and, Bool.false_and, Bool.and_true, Bool.and_false, reduceIte, List.append_nil, reduceCtorEq]
      simp [fr4, zq]
    · obtain ⟨e1, e2, e3, e4, e5, e6, e7, e8, e9, l1, l2⟩ := sum_facts h k
      obtain ⟨k1, k2, _⟩ := valid_bounds k
      have u1 : IntKind.i64.wrap (-1 * x) = -x := by rw [Int.neg_one_mul]; exact wrap_in (by omega)
      have u2 : IntKind.i64.wrap (-1 * y) = -y := by rw [Int.neg_one_mul]; exact wrap_in (by omega)
      have m2 := mulB k1 (b := c) (by have := valid_bounds h; omega)
      have m4 := mulB k2 (b := c) (by have := valid_bounds h; omega)
      have v1 : IntKind.i64.wrap (-x * c) = -(x * c) := by rw [Int.neg_mul]; exact wrap_in (by omega)
      have v2 : IntKind.i64.wrap (-y * c) = -(y * c) := by rw [Int.neg_mul]; exact wrap_in (by omega)
      have v3 : IntKind.i64.wrap (a * z + -(x * c)) = a * z - x * c := by rw [← Int.sub_eq_add_neg]; exact e8
      have v4 : IntKind.i64.wrap (b * z + -(y * c)) = b * z - y * c := by rw [← Int.sub_eq_add_neg]; exact e9
      simp only [F_l2SumM, G_l2SumM, tr_l2SumM, Fs_l2SumM, G_sFracValid, G_l2Low, lessQ, validQ, q3, arI, h, k, u1, u2, v1, v2, v3, v4, e1, e3, e5, ofTree, okT, okE, evalT, evalE, evsIn, ev, callF, preF, hasF, needs, i0, b0, toI_int, toB_bool, List.getD_cons_zero, List.getD_cons_succ, List.cons_append, List.nil_append, List.replicate, if_true, if_false, Bool.false_eq_true, and_true, true_and, implies_true, forall_const, false_implies, cmpI, Bool.not_true, Bool.not_false, Bool.true_and, Bool.false_and, Bool.and_true, Bool.and_false, reduceIte, List.append_nil, reduceCtorEq]
      simp [fr4, l2]
def tr_l6tAddP : Tr :=
  (.evs [.call 0 [(.var 0), (.var 1), (.var 2), (.var 3), (.var 4), (.var 5)] none 4]
  (.ret [(.var 7), (.var 8), (.var 9), (.ite (.var 6) (.var 10) (.bool false))]))
def Fs_l6tAddP : List Fun1 := [G_l2SumP]
def F_l6tAddP : Fun1 := ofTree Fs_l6tAddP tr_l6tAddP
def G_l6tAddP : Fun1 := ⟨fun _ => True, fun ins => fr3 (addQ (q3 ins 0) (q3 ins 3)) ++ [.bool (b0 ins 6 && (addQ (q3 ins 0) (q3 ins 3)).isSome)]⟩
theorem as_l6tAddP (ins : List Value) (ht : TypedL [.int .i64, .int .i64, .int .i64, .int .i64, .int .i64, .int .i64, .bool] ins) (_ : G_l6tAddP.pre ins) : F_l6tAddP.pre ins ∧ F_l6tAddP.out ins = G_l6tAddP.out ins := by
  obtain ⟨a, r1, rfl, _, ht1⟩ := int_cons ht
  obtain ⟨b, r2, rfl, _, ht2⟩ := int_cons ht1
  obtain ⟨c, r3, rfl, _, ht3⟩ := int_cons ht2
  obtain ⟨x, r4, rfl, _, ht4⟩ := int_cons ht3
  obtain ⟨y, r5, rfl, _, ht5⟩ := int_cons ht4
  obtain ⟨z, r6, rfl, _, ht6⟩ := int_cons ht5
  obtain ⟨t, r7, rfl, ht7⟩ := bool_cons ht6
  obtain rfl := ints0 ht7
  simp only [F_l6tAddP, G_l6tAddP, tr_l6tAddP, Fs_l6tAddP, G_l2SumP, q3, fr4, fr3, ofTree, okT, okE, evalT, evalE, evsIn, ev, callF, preF, hasF, needs, i0, b0, toI_int, toB_bool, List.getD_cons_zero, List.getD_cons_succ, List.cons_append, List.nil_append, List.replicate, if_true, if_false, Bool.false_eq_true, and_true, true_and, implies_true, forall_const, false_implies, cmpI, Bool.not_true, Bool.not_false, Bool.true_and, Bool.false_and, Bool.and_true, Bool.and_false, reduceIte, List.append_nil, reduceCtorEq]
  cases t <;> simp
def tr_l6tAddM : Tr :=
  (.evs [.call 0 [(.var 0), (.var 1), (.var 2), (.var 3), (.var 4), (.var 5)] none 4]
  (.ret [(.var 7), (.var 8), (.var 9), (.ite (.var 6) (.var 10) (.bool false))]))
def Fs_l6tAddM : List Fun1 := [G_l2SumM]
def F_l6tAddM : Fun1 := ofTree Fs_l6tAddM tr_l6tAddM
def G_l6tAddM : Fun1 := ⟨fun _ => True, fun ins => fr3 (lessQ (q3 ins 0) (q3 ins 3)) ++ [.bool (b0 ins 6 && (lessQ (q3 ins 0) (q3 ins 3)).isSome)]⟩
theorem as_l6tAddM (ins : List Value) (ht : TypedL [.int .i64, .int .i64, .int .i64, .int .i64, .int .i64, .int .i64, .bool] ins) (_ : G_l6tAddM.pre ins) : F_l6tAddM.pre ins ∧ F_l6tAddM.out ins = G_l6tAddM.out ins := by
  obtain ⟨a, r1, rfl, _, ht1⟩ := int_cons ht
  obtain ⟨b, r2, rfl, _, ht2⟩ := int_cons ht1
  obtain ⟨c, r3, rfl, _, ht3⟩ := int_cons ht2
  obtain ⟨x, r4, rfl, _, ht4⟩ := int_cons ht3
  obtain ⟨y, r5, rfl, _, ht5⟩ := int_cons ht4
  obtain ⟨z, r6, rfl, _, ht6⟩ := int_cons ht5
  obtain ⟨t, r7, rfl, ht7⟩ := bool_cons ht6
  obtain rfl := ints0 ht7
  simp only [F_l6tAddM, G_l6tAddM, tr_l6tAddM, Fs_l6tAddM, G_l2SumM, q3, fr4, fr3, ofTree, okT, okE, evalT, evalE, evsIn, ev, callF, preF, hasF, needs, i0, b0, toI_int, toB_bool, List.getD_cons_zero, List.getD_cons_succ, List.cons_append, List.nil_append, List.replicate, if_true, if_false, Bool.false_eq_true, and_true, true_and, implies_true, forall_const, false_implies, cmpI, Bool.not_true, Bool.not_false, Bool.true_and, Bool.false_and, Bool.and_true, Bool.and_false, reduceIte, List.append_nil, reduceCtorEq]
  cases t <;> simp
def tr_l6tPair : Tr :=
  (.evs [.call 0 [(.var 3), (.var 4), (.var 5)] none 4]
  (.evs [.call 1 [(.var 0), (.var 1), (.var 2), (.var 7), (.var 8), (.var 9)] none 4]
  (.ret [(.var 11), (.var 12), (.var 13), (.ite (.ite (.var 6) (.var 10) (.bool false)) (.var 14) (.bool false))])))
def Fs_l6tPair : List Fun1 := [G_sFracMirror, G_sFracTimes]
def F_l6tPair : Fun1 := ofTree Fs_l6tPair tr_l6tPair
def G_l6tPair : Fun1 := ⟨fun _ => True, fun ins => fr3 (pairQ (q3 ins 0) (q3 ins 3)) ++ [.bool (b0 ins 6 && (pairQ (q3 ins 0) (q3 ins 3)).isSome)]⟩
theorem as_l6tPair (ins : List Value) (ht : TypedL [.int .i64, .int .i64, .int .i64, .int .i64, .int .i64, .int .i64, .bool] ins) (_ : G_l6tPair.pre ins) : F_l6tPair.pre ins ∧ F_l6tPair.out ins = G_l6tPair.out ins := by
  obtain ⟨a, r1, rfl, _, ht1⟩ := int_cons ht
  obtain ⟨b, r2, rfl, _, ht2⟩ := int_cons ht1
  obtain ⟨c, r3, rfl, _, ht3⟩ := int_cons ht2
  obtain ⟨x, r4, rfl, _, ht4⟩ := int_cons ht3
  obtain ⟨y, r5, rfl, _, ht5⟩ := int_cons ht4
  obtain ⟨z, r6, rfl, _, ht6⟩ := int_cons ht5
  obtain ⟨t, r7, rfl, ht7⟩ := bool_cons ht6
  obtain rfl := ints0 ht7
  simp only [F_l6tPair, G_l6tPair, tr_l6tPair, Fs_l6tPair, G_sFracMirror, G_sFracTimes, pairQ, q3, fr3, fr4, ofTree, okT, okE, evalT, evalE, evsIn, ev, callF, preF, hasF, needs, i0, b0, toI_int, toB_bool, List.getD_cons_zero, List.getD_cons_succ, List.cons_append, List.nil_append, List.replicate, if_true, if_false, Bool.false_eq_true, and_true, true_and, implies_true, forall_const, false_implies, cmpI, Bool.not_true, Bool.not_false, Bool.true_and, Bool.false_and, Bool.and_true, Bool.and_false, reduceIte, List.append_nil, reduceCtorEq]
  cases h : mirQ (x, y, z)
  · cases t <;> simp [zq, show timesQ (a, b, c) (0, 0, 0) = none from times_zq' _]
  · cases t <;> simp
def tr_l6tPart20 : Tr :=
  (.evs [.call 0 [(.var 0), (.int .i64 0), (.ar .mul .i64 (.mx false .i64 (.int .i64 1) (.var 2)) (.int .i64 2))] none 4]
  (.ret [(.var 4), (.var 5), (.var 6), (.ite (.var 3) (.var 7) (.bool false))]))
def Fs_l6tPart20 : List Fun1 := [G_sFracMake]
def F_l6tPart20 : Fun1 := ofTree Fs_l6tPart20 tr_l6tPart20
def G_l6tPart20 : Fun1 := ⟨fun _ => True, fun ins => fr3 (partP (q3 ins 0)) ++ [.bool (b0 ins 3 && (partP (q3 ins 0)).isSome)]⟩
theorem as_l6tPart20 (ins : List Value) (ht : TypedL [.int .i64, .int .i64, .int .i64, .bool] ins) (_ : G_l6tPart20.pre ins) : F_l6tPart20.pre ins ∧ F_l6tPart20.out ins = G_l6tPart20.out ins := by
  obtain ⟨a, r1, rfl, _, ht1⟩ := int_cons ht
  obtain ⟨b, r2, rfl, _, ht2⟩ := int_cons ht1
  obtain ⟨c, r3, rfl, _, ht3⟩ := int_cons ht2
  obtain ⟨t, r7, rfl, ht7⟩ := bool_cons ht3
  obtain rfl := ints0 ht7
  simp only [F_l6tPart20, G_l6tPart20, tr_l6tPart20, Fs_l6tPart20, G_sFracMake, partP, q3, fr4, fr3, arI, ofTree, okT, okE, evalT, evalE, evsIn, ev, callF, preF, hasF, needs, i0, b0, toI_int, toB_bool, List.getD_cons_zero, List.getD_cons_succ, List.cons_append, List.nil_append, List.replicate, if_true, if_false, Bool.false_eq_true, and_true, true_and, implies_true, forall_const, false_implies, cmpI, Bool.not_true, Bool.not_false, Bool.true_and, Bool.false_and, Bool.and_true, Bool.and_false, reduceIte, List.append_nil, reduceCtorEq]
  cases t <;> simp
def tr_l6tPart10 : Tr :=
  (.evs [.call 0 [(.var 0), (.int .i64 0), (.ar .mul .i64 (.mx false .i64 (.int .i64 1) (.var 2)) (.int .i64 1))] none 4]
  (.ret [(.var 4), (.var 5), (.var 6), (.ite (.var 3) (.var 7) (.bool false))]))
def Fs_l6tPart10 : List Fun1 := [G_sFracMake]
def F_l6tPart10 : Fun1 := ofTree Fs_l6tPart10 tr_l6tPart10
def G_l6tPart10 : Fun1 := ⟨fun _ => True, fun ins => fr3 (partR (q3 ins 0)) ++ [.bool (b0 ins 3 && (partR (q3 ins 0)).isSome)]⟩
theorem as_l6tPart10 (ins : List Value) (ht : TypedL [.int .i64, .int .i64, .int .i64, .bool] ins) (_ : G_l6tPart10.pre ins) : F_l6tPart10.pre ins ∧ F_l6tPart10.out ins = G_l6tPart10.out ins := by
  obtain ⟨a, r1, rfl, _, ht1⟩ := int_cons ht
  obtain ⟨b, r2, rfl, _, ht2⟩ := int_cons ht1
  obtain ⟨c, r3, rfl, _, ht3⟩ := int_cons ht2
  obtain ⟨t, r7, rfl, ht7⟩ := bool_cons ht3
  obtain rfl := ints0 ht7
  simp only [F_l6tPart10, G_l6tPart10, tr_l6tPart10, Fs_l6tPart10, G_sFracMake, partR, q3, fr4, fr3, arI, ofTree, okT, okE, evalT, evalE, evsIn, ev, callF, preF, hasF, needs, i0, b0, toI_int, toB_bool, List.getD_cons_zero, List.getD_cons_succ, List.cons_append, List.nil_append, List.replicate, if_true, if_false, Bool.false_eq_true, and_true, true_and, implies_true, forall_const, false_implies, cmpI, Bool.not_true, Bool.not_false, Bool.true_and, Bool.false_and, Bool.and_true, Bool.and_false, reduceIte, List.append_nil, reduceCtorEq]
  cases t <;> simp
def tr_l6tPart11 : Tr :=
  (.evs [.call 0 [(.var 1), (.int .i64 0), (.ar .mul .i64 (.mx false .i64 (.int .i64 1) (.var 2)) (.int .i64 1))] none 4]
  (.ret [(.var 4), (.var 5), (.var 6), (.ite (.var 3) (.var 7) (.bool false))]))
def Fs_l6tPart11 : List Fun1 := [G_sFracMake]
def F_l6tPart11 : Fun1 := ofTree Fs_l6tPart11 tr_l6tPart11
def G_l6tPart11 : Fun1 := ⟨fun _ => True, fun ins => fr3 (partI (q3 ins 0)) ++ [.bool (b0 ins 3 && (partI (q3 ins 0)).isSome)]⟩
theorem as_l6tPart11 (ins : List Value) (ht : TypedL [.int .i64, .int .i64, .int .i64, .bool] ins) (_ : G_l6tPart11.pre ins) : F_l6tPart11.pre ins ∧ F_l6tPart11.out ins = G_l6tPart11.out ins := by
  obtain ⟨a, r1, rfl, _, ht1⟩ := int_cons ht
  obtain ⟨b, r2, rfl, _, ht2⟩ := int_cons ht1
  obtain ⟨c, r3, rfl, _, ht3⟩ := int_cons ht2
  obtain ⟨t, r7, rfl, ht7⟩ := bool_cons ht3
  obtain rfl := ints0 ht7
  simp only [F_l6tPart11, G_l6tPart11, tr_l6tPart11, Fs_l6tPart11, G_sFracMake, partI, q3, fr4, fr3, arI, ofTree, okT, okE, evalT, evalE, evsIn, ev, callF, preF, hasF, needs, i0, b0, toI_int, toB_bool, List.getD_cons_zero, List.getD_cons_succ, List.cons_append, List.nil_append, List.replicate, if_true, if_false, Bool.false_eq_true, and_true, true_and, implies_true, forall_const, false_implies, cmpI, Bool.not_true, Bool.not_false, Bool.true_and, Bool.false_and, Bool.and_true, Bool.and_false, reduceIte, List.append_nil, reduceCtorEq]
  cases t <;> simp
def tr_l6tPowersA : Tr :=
  (.evs [.call 0 [(.var 0), (.var 1), (.var 2), (.var 0), (.var 1), (.var 2), (.var 12)] none 4]
  (.evs [.call 0 [(.var 3), (.var 4), (.var 5), (.var 3), (.var 4), (.var 5), (.var 16)] none 4,
    .call 1 [(.var 13), (.var 14), (.var 15), (.var 17), (.var 18), (.var 19), (.var 20)] none 4]
  (.evs [.call 0 [(.var 6), (.var 7), (.var 8), (.var 6), (.var 7), (.var 8), (.var 24)] none 4,
    .call 1 [(.var 21), (.var 22), (.var 23), (.var 25), (.var 26), (.var 27), (.var 28)] none 4]
  (.evs [.call 0 [(.var 9), (.var 10), (.var 11), (.var 9), (.var 10), (.var 11), (.var 32)] none 4,
    .call 1 [(.var 29), (.var 30), (.var 31), (.var 33), (.var 34), (.var 35), (.var 36)] none 4]
  (.evs [.call 3 [(.var 37), (.var 38), (.var 39), (.var 40)] none 4]
  (.ret [(.var 41), (.var 42), (.var 43), (.var 44)]))))))
def Fs_l6tPowersA : List Fun1 := [G_l6tPair, G_l6tAddP, G_l6tAddM, G_l6tPart20]
def F_l6tPowersA : Fun1 := ofTree Fs_l6tPowersA tr_l6tPowersA
def tr_l6tPowersB : Tr :=
  (.evs [.call 0 [(.var 0), (.var 1), (.var 2), (.var 0), (.var 1), (.var 2), (.var 12)] none 4]
  (.evs [.call 0 [(.var 3), (.var 4), (.var 5), (.var 3), (.var 4), (.var 5), (.var 16)] none 4,
    .call 2 [(.var 13), (.var 14), (.var 15), (.var 17), (.var 18), (.var 19), (.var 20)] none 4]
  (.evs [.call 0 [(.var 6), (.var 7), (.var 8), (.var 6), (.var 7), (.var 8), (.var 24)] none 4,
    .call 1 [(.var 21), (.var 22), (.var 23), (.var 25), (.var 26), (.var 27), (.var 28)] none 4]
  (.evs [.call 0 [(.var 9), (.var 10), (.var 11), (.var 9), (.var 10), (.var 11), (.var 32)] none 4,
    .call 2 [(.var 29), (.var 30), (.var 31), (.var 33), (.var 34), (.var 35), (.var 36)] none 4]
  (.evs [.call 3 [(.var 37), (.var 38), (.var 39), (.var 40)] none 4]
  (.ret [(.var 41), (.var 42), (.var 43), (.var 44)]))))))
def Fs_l6tPowersB : List Fun1 := [G_l6tPair, G_l6tAddP, G_l6tAddM, G_l6tPart20]
def F_l6tPowersB : Fun1 := ofTree Fs_l6tPowersB tr_l6tPowersB
def tr_l6tPowersC : Tr :=
  (.evs [.call 0 [(.var 0), (.var 1), (.var 2), (.var 0), (.var 1), (.var 2), (.var 12)] none 4]
  (.evs [.call 0 [(.var 3), (.var 4), (.var 5), (.var 3), (.var 4), (.var 5), (.var 16)] none 4,
    .call 1 [(.var 13), (.var 14), (.var 15), (.var 17), (.var 18), (.var 19), (.var 20)] none 4]
  (.evs [.call 0 [(.var 6), (.var 7), (.var 8), (.var 6), (.var 7), (.var 8), (.var 24)] none 4,
    .call 2 [(.var 21), (.var 22), (.var 23), (.var 25), (.var 26), (.var 27), (.var 28)] none 4]
  (.evs [.call 0 [(.var 9), (.var 10), (.var 11), (.var 9), (.var 10), (.var 11), (.var 32)] none 4,
    .call 2 [(.var 29), (.var 30), (.var 31), (.var 33), (.var 34), (.var 35), (.var 36)] none 4]
  (.evs [.call 3 [(.var 37), (.var 38), (.var 39), (.var 40)] none 4]
  (.ret [(.var 41), (.var 42), (.var 43), (.var 44)]))))))
def Fs_l6tPowersC : List Fun1 := [G_l6tPair, G_l6tAddP, G_l6tAddM, G_l6tPart20]
def F_l6tPowersC : Fun1 := ofTree Fs_l6tPowersC tr_l6tPowersC
def tr_l6tPowersD : Tr :=
  (.evs [.call 0 [(.var 0), (.var 1), (.var 2), (.var 0), (.var 1), (.var 2), (.var 12)] none 4]
  (.evs [.call 0 [(.var 3), (.var 4), (.var 5), (.var 3), (.var 4), (.var 5), (.var 16)] none 4,
    .call 2 [(.var 13), (.var 14), (.var 15), (.var 17), (.var 18), (.var 19), (.var 20)] none 4]
  (.evs [.call 0 [(.var 6), (.var 7), (.var 8), (.var 6), (.var 7), (.var 8), (.var 24)] none 4,
    .call 2 [(.var 21), (.var 22), (.var 23), (.var 25), (.var 26), (.var 27), (.var 28)] none 4]
  (.evs [.call 0 [(.var 9), (.var 10), (.var 11), (.var 9), (.var 10), (.var 11), (.var 32)] none 4,
    .call 1 [(.var 29), (.var 30), (.var 31), (.var 33), (.var 34), (.var 35), (.var 36)] none 4]
  (.evs [.call 3 [(.var 37), (.var 38), (.var 39), (.var 40)] none 4]
  (.ret [(.var 41), (.var 42), (.var 43), (.var 44)]))))))
def Fs_l6tPowersD : List Fun1 := [G_l6tPair, G_l6tAddP, G_l6tAddM, G_l6tPart20]
def F_l6tPowersD : Fun1 := ofTree Fs_l6tPowersD tr_l6tPowersD
def tr_l6tTwo2 : Tr :=
  (.evs [.call 0 [(.var 0), (.var 1), (.var 2), (.var 3), (.var 4), (.var 5), (.var 12)] none 4]
  (.evs [.call 0 [(.var 6), (.var 7), (.var 8), (.var 9), (.var 10), (.var 11), (.var 16)] none 4]
  (.evs [.call 1 [(.var 13), (.var 14), (.var 15), (.var 17), (.var 18), (.var 19), (.var 20)] none 4,
    .call 2 [(.var 21), (.var 22), (.var 23), (.var 24)] none 4]
  (.ret [(.var 25), (.var 26), (.var 27), (.var 28)]))))
def Fs_l6tTwo2 : List Fun1 := [G_l6tPair, G_l6tAddP, G_l6tPart10]
def F_l6tTwo2 : Fun1 := ofTree Fs_l6tTwo2 tr_l6tTwo2
def tr_l6tTwo3 : Tr :=
  (.evs [.call 0 [(.var 3), (.var 4), (.var 5), (.var 0), (.var 1), (.var 2), (.var 12)] none 4]
  (.evs [.call 0 [(.var 9), (.var 10), (.var 11), (.var 6), (.var 7), (.var 8), (.var 16)] none 4]
  (.evs [.call 1 [(.var 13), (.var 14), (.var 15), (.var 17), (.var 18), (.var 19), (.var 20)] none 4,
    .call 2 [(.var 21), (.var 22), (.var 23), (.var 24)] none 4]
  (.ret [(.var 25), (.var 26), (.var 27), (.var 28)]))))
def Fs_l6tTwo3 : List Fun1 := [G_l6tPair, G_l6tAddP, G_l6tPart11]
def F_l6tTwo3 : Fun1 := ofTree Fs_l6tTwo3 tr_l6tTwo3
def tr_l6tTwo6 : Tr :=
  (.evs [.call 0 [(.var 0), (.var 1), (.var 2), (.var 3), (.var 4), (.var 5), (.var 12)] none 4]
  (.evs [.call 0 [(.var 6), (.var 7), (.var 8), (.var 9), (.var 10), (.var 11), (.var 16)] none 4]
  (.evs [.call 1 [(.var 13), (.var 14), (.var 15), (.var 17), (.var 18), (.var 19), (.var 20)] none 4,
    .call 2 [(.var 21), (.var 22), (.var 23), (.var 24)] none 4]
  (.ret [(.var 25), (.var 26), (.var 27), (.var 28)]))))
def Fs_l6tTwo6 : List Fun1 := [G_l6tPair, G_l6tAddM, G_l6tPart10]
def F_l6tTwo6 : Fun1 := ofTree Fs_l6tTwo6 tr_l6tTwo6
def tr_l6tTwo7 : Tr :=
  (.evs [.call 0 [(.var 3), (.var 4), (.var 5), (.var 0), (.var 1), (.var 2), (.var 12)] none 4]
  (.evs [.call 0 [(.var 9), (.var 10), (.var 11), (.var 6), (.var 7), (.var 8), (.var 16)] none 4]
  (.evs [.call 1 [(.var 13), (.var 14), (.var 15), (.var 17), (.var 18), (.var 19), (.var 20)] none 4,
    .call 2 [(.var 21), (.var 22), (.var 23), (.var 24)] none 4]
  (.ret [(.var 25), (.var 26), (.var 27), (.var 28)]))))
def Fs_l6tTwo7 : List Fun1 := [G_l6tPair, G_l6tAddM, G_l6tPart11]
def F_l6tTwo7 : Fun1 := ofTree Fs_l6tTwo7 tr_l6tTwo7
def tr_l6tTwo8 : Tr :=
  (.evs [.call 0 [(.var 0), (.var 1), (.var 2), (.var 6), (.var 7), (.var 8), (.var 12)] none 4]
  (.evs [.call 0 [(.var 3), (.var 4), (.var 5), (.var 9), (.var 10), (.var 11), (.var 16)] none 4]
  (.evs [.call 1 [(.var 13), (.var 14), (.var 15), (.var 17), (.var 18), (.var 19), (.var 20)] none 4,
    .call 2 [(.var 21), (.var 22), (.var 23), (.var 24)] none 4]
  (.ret [(.var 25), (.var 26), (.var 27), (.var 28)]))))
def Fs_l6tTwo8 : List Fun1 := [G_l6tPair, G_l6tAddP, G_l6tPart10]
def F_l6tTwo8 : Fun1 := ofTree Fs_l6tTwo8 tr_l6tTwo8
def tr_l6tTwo9 : Tr :=
  (.evs [.call 0 [(.var 0), (.var 1), (.var 2), (.var 6), (.var 7), (.var 8), (.var 12)] none 4]
  (.evs [.call 0 [(.var 3), (.var 4), (.var 5), (.var 9), (.var 10), (.var 11), (.var 16)] none 4]
  (.evs [.call 1 [(.var 13), (.var 14), (.var 15), (.var 17), (.var 18), (.var 19), (.var 20)] none 4,
    .call 2 [(.var 21), (.var 22), (.var 23), (.var 24)] none 4]
  (.ret [(.var 25), (.var 26), (.var 27), (.var 28)]))))
def Fs_l6tTwo9 : List Fun1 := [G_l6tPair, G_l6tAddM, G_l6tPart10]
def F_l6tTwo9 : Fun1 := ofTree Fs_l6tTwo9 tr_l6tTwo9
def tr_l6tTwo10 : Tr :=
  (.evs [.call 0 [(.var 0), (.var 1), (.var 2), (.var 9), (.var 10), (.var 11), (.var 12)] none 4]
  (.evs [.call 0 [(.var 3), (.var 4), (.var 5), (.var 6), (.var 7), (.var 8), (.var 16)] none 4]
  (.evs [.call 1 [(.var 13), (.var 14), (.var 15), (.var 17), (.var 18), (.var 19), (.var 20)] none 4,
    .call 2 [(.var 21), (.var 22), (.var 23), (.var 24)] none 4]
  (.ret [(.var 25), (.var 26), (.var 27), (.var 28)]))))
def Fs_l6tTwo10 : List Fun1 := [G_l6tPair, G_l6tAddP, G_l6tPart10]
def F_l6tTwo10 : Fun1 := ofTree Fs_l6tTwo10 tr_l6tTwo10
def tr_l6tTwo11 : Tr :=
  (.evs [.call 0 [(.var 3), (.var 4), (.var 5), (.var 6), (.var 7), (.var 8), (.var 12)] none 4]
  (.evs [.call 0 [(.var 0), (.var 1), (.var 2), (.var 9), (.var 10), (.var 11), (.var 16)] none 4]
  (.evs [.call 1 [(.var 13), (.var 14), (.var 15), (.var 17), (.var 18), (.var 19), (.var 20)] none 4,
    .call 2 [(.var 21), (.var 22), (.var 23), (.var 24)] none 4]
  (.ret [(.var 25), (.var 26), (.var 27), (.var 28)]))))
def Fs_l6tTwo11 : List Fun1 := [G_l6tPair, G_l6tAddM, G_l6tPart11]
def F_l6tTwo11 : Fun1 := ofTree Fs_l6tTwo11 tr_l6tTwo11
def tr_l6tTwo12 : Tr :=
  (.evs [.call 0 [(.var 0), (.var 1), (.var 2), (.var 6), (.var 7), (.var 8), (.var 12)] none 4]
  (.evs [.call 0 [(.var 3), (.var 4), (.var 5), (.var 9), (.var 10), (.var 11), (.var 16)] none 4]
  (.evs [.call 1 [(.var 13), (.var 14), (.var 15), (.var 17), (.var 18), (.var 19), (.var 20)] none 4,
    .call 2 [(.var 21), (.var 22), (.var 23), (.var 24)] none 4]
  (.ret [(.var 25), (.var 26), (.var 27), (.var 28)]))))
def Fs_l6tTwo12 : List Fun1 := [G_l6tPair, G_l6tAddP, G_l6tPart11]
def F_l6tTwo12 : Fun1 := ofTree Fs_l6tTwo12 tr_l6tTwo12
def tr_l6tTwo13 : Tr :=
  (.evs [.call 0 [(.var 0), (.var 1), (.var 2), (.var 6), (.var 7), (.var 8), (.var 12)] none 4]
  (.evs [.call 0 [(.var 3), (.var 4), (.var 5), (.var 9), (.var 10), (.var 11), (.var 16)] none 4]
  (.evs [.call 1 [(.var 13), (.var 14), (.var 15), (.var 17), (.var 18), (.var 19), (.var 20)] none 4,
    .call 2 [(.var 21), (.var 22), (.var 23), (.var 24)] none 4]
  (.ret [(.var 25), (.var 26), (.var 27), (.var 28)]))))
def Fs_l6tTwo13 : List Fun1 := [G_l6tPair, G_l6tAddM, G_l6tPart11]
def F_l6tTwo13 : Fun1 := ofTree Fs_l6tTwo13 tr_l6tTwo13
def tr_l6tTwo14 : Tr :=
  (.evs [.call 0 [(.var 0), (.var 1), (.var 2), (.var 9), (.var 10), (.var 11), (.var 12)] none 4]
  (.evs [.call 0 [(.var 3), (.var 4), (.var 5), (.var 6), (.var 7), (.var 8), (.var 16)] none 4]
  (.evs [.call 1 [(.var 13), (.var 14), (.var 15), (.var 17), (.var 18), (.var 19), (.var 20)] none 4,
    .call 2 [(.var 21), (.var 22), (.var 23), (.var 24)] none 4]
  (.ret [(.var 25), (.var 26), (.var 27), (.var 28)]))))
def Fs_l6tTwo14 : List Fun1 := [G_l6tPair, G_l6tAddP, G_l6tPart11]
def F_l6tTwo14 : Fun1 := ofTree Fs_l6tTwo14 tr_l6tTwo14
def tr_l6tTwo15 : Tr :=
  (.evs [.call 0 [(.var 0), (.var 1), (.var 2), (.var 9), (.var 10), (.var 11), (.var 12)] none 4]
  (.evs [.call 0 [(.var 3), (.var 4), (.var 5), (.var 6), (.var 7), (.var 8), (.var 16)] none 4]
  (.evs [.call 1 [(.var 13), (.var 14), (.var 15), (.var 17), (.var 18), (.var 19), (.var 20)] none 4,
    .call 2 [(.var 21), (.var 22), (.var 23), (.var 24)] none 4]
  (.ret [(.var 25), (.var 26), (.var 27), (.var 28)]))))
def Fs_l6tTwo15 : List Fun1 := [G_l6tPair, G_l6tAddM, G_l6tPart10]
def F_l6tTwo15 : Fun1 := ofTree Fs_l6tTwo15 tr_l6tTwo15
def tr_iTableOf : Tr :=
  (.evs [.call 0 [(.var 0), (.var 1), (.var 2), (.var 3), (.var 4), (.var 5), (.var 6), (.var 7), (.var 8), (.var 9), (.var 10), (.var 11)] none 1,
    .call 1 [(.var 12), (.bool false)] none 1]
  (.evs [.call 2 [(.var 0), (.var 1), (.var 2), (.var 13)] none 4,
    .call 2 [(.var 3), (.var 4), (.var 5), (.var 17)] none 4,
    .call 2 [(.var 6), (.var 7), (.var 8), (.var 21)] none 4,
    .call 2 [(.var 9), (.var 10), (.var 11), (.var 25)] none 4]
  (.evs [.call 5 [(.var 14), (.var 15), (.var 16), (.var 18), (.var 19), (.var 20), (.var 29)] none 4,
    .call 5 [(.var 30), (.var 31), (.var 32), (.var 22), (.var 23), (.var 24), (.var 33)] none 4,
    .call 5 [(.var 34), (.var 35), (.var 36), (.var 26), (.var 27), (.var 28), (.var 37)] none 4,
    .call 4 [(.var 38), (.var 39), (.var 40), (.var 41)] none 4,
    .call 6 [(.var 14), (.var 15), (.var 16), (.var 18), (.var 19), (.var 20), (.var 45)] none 4,
    .call 5 [(.var 46), (.var 47), (.var 48), (.var 22), (.var 23), (.var 24), (.var 49)] none 4,
    .call 6 [(.var 50), (.var 51), (.var 52), (.var 26), (.var 27), (.var 28), (.var 53)] none 4,
    .call 4 [(.var 54), (.var 55), (.var 56), (.var 57)] none 4,
    .call 3 [(.var 0), (.var 1), (.var 2), (.var 3), (.var 4), (.var 5), (.var 61)] none 4,
    .call 3 [(.var 6), (.var 7), (.var 8), (.var 9), (.var 10), (.var 11), (.var 65)] none 4,
    .call 5 [(.var 62), (.var 63), (.var 64), (.var 66), (.var 67), (.var 68), (.var 69)] none 4,
    .call 7 [(.var 70), (.var 71), (.var 72), (.var 73)] none 4,
    .call 3 [(.var 3), (.var 4), (.var 5), (.var 0), (.var 1), (.var 2), (.var 77)] none 4,
    .call 3 [(.var 9), (.var 10), (.var 11), (.var 6), (.var 7), (.var 8), (.var 81)] none 4,
    .call 5 [(.var 78), (.var 79), (.var 80), (.var 82), (.var 83), (.var 84), (.var 85)] none 4,
    .call 8 [(.var 86), (.var 87), (.var 88), (.var 89)] none 4,
    .call 5 [(.var 14), (.var 15), (.var 16), (.var 18), (.var 19), (.var 20), (.var 93)] none 4,
    .call 6 [(.var 94), (.var 95), (.var 96), (.var 22), (.var 23), (.var 24), (.var 97)] none 4,
    .call 6 [(.var 98), (.var 99), (.var 100), (.var 26), (.var 27), (.var 28), (.var 101)] none 4,
    .call 4 [(.var 102), (.var 103), (.var 104), (.var 105)] none 4,
    .call 6 [(.var 14), (.var 15), (.var 16), (.var 18), (.var 19), (.var 20), (.var 109)] none 4,
    .call 6 [(.var 110), (.var 111), (.var 112), (.var 22), (.var 23), (.var 24), (.var 113)] none 4,
    .call 5 [(.var 114), (.var 115), (.var 116), (.var 26), (.var 27), (.var 28), (.var 117)] none 4,
    .call 4 [(.var 118), (.var 119), (.var 120), (.var 121)] none 4,
    .call 3 [(.var 0), (.var 1), (.var 2), (.var 3), (.var 4), (.var 5), (.var 125)] none 4,
    .call 3 [(.var 6), (.var 7), (.var 8), (.var 9), (.var 10), (.var 11), (.var 129)] none 4,
    .call 6 [(.var 126), (.var 127), (.var 128), (.var 130), (.var 131), (.var 132), (.var 133)] none 4,
    .call 7 [(.var 134), (.var 135), (.var 136), (.var 137)] none 4,
    .call 3 [(.var 3), (.var 4), (.var 5), (.var 0), (.var 1), (.var 2), (.var 141)] none 4,
    .call 3 [(.var 9), (.var 10), (.var 11), (.var 6), (.var 7), (.var 8), (.var 145)] none 4,
    .call 6 [(.var 142), (.var 143), (.var 144), (.var 146), (.var 147), (.var 148), (.var 149)] none 4,
    .call 8 [(.var 150), (.var 151), (.var 152), (.var 153)] none 4,
    .call 3 [(.var 0), (.var 1), (.var 2), (.var 6), (.var 7), (.var 8), (.var 157)] none 4,
    .call 3 [(.var 3), (.var 4), (.var 5), (.var 9), (.var 10), (.var 11), (.var 161)] none 4,
    .call 5 [(.var 158), (.var 159), (.var 160), (.var 162), (.var 163), (.var 164), (.var 165)] none 4,
    .call 7 [(.var 166), (.var 167), (.var 168), (.var 169)] none 4,
    .call 3 [(.var 0), (.var 1), (.var 2), (.var 6), (.var 7), (.var 8), (.var 173)] none 4,
    .call 3 [(.var 3), (.var 4), (.var 5), (.var 9), (.var 10), (.var 11), (.var 177)] none 4,
    .call 6 [(.var 174), (.var 175), (.var 176), (.var 178), (.var 179), (.var 180), (.var 181)] none 4,
    .call 7 [(.var 182), (.var 183), (.var 184), (.var 185)] none 4,
    .call 3 [(.var 0), (.var 1), (.var 2), (.var 9), (.var 10), (.var 11), (.var 189)] none 4,
    .call 3 [(.var 3), (.var 4), (.var 5), (.var 6), (.var 7), (.var 8), (.var 193)] none 4,
    .call 5 [(.var 190), (.var 191), (.var 192), (.var 194), (.var 195), (.var 196), (.var 197)] none 4,
    .call 7 [(.var 198), (.var 199), (.var 200), (.var 201)] none 4,
    .call 3 [(.var 3), (.var 4), (.var 5), (.var 6), (.var 7), (.var 8), (.var 205)] none 4,
    .call 3 [(.var 0), (.var 1), (.var 2), (.var 9), (.var 10), (.var 11), (.var 209)] none 4,
    .call 6 [(.var 206), (.var 207), (.var 208), (.var 210), (.var 211), (.var 212), (.var 213)] none 4,
    .call 8 [(.var 214), (.var 215), (.var 216), (.var 217)] none 4,
    .call 3 [(.var 0), (.var 1), (.var 2), (.var 6), (.var 7), (.var 8), (.var 221)] none 4,
    .call 3 [(.var 3), (.var 4), (.var 5), (.var 9), (.var 10), (.var 11), (.var 225)] none 4,
    .call 5 [(.var 222), (.var 223), (.var 224), (.var 226), (.var 227), (.var 228), (.var 229)] none 4,
    .call 8 [(.var 230), (.var 231), (.var 232), (.var 233)] none 4,
    .call 3 [(.var 0), (.var 1), (.var 2), (.var 6), (.var 7), (.var 8), (.var 237)] none 4,
    .call 3 [(.var 3), (.var 4), (.var 5), (.var 9), (.var 10), (.var 11), (.var 241)] none 4,
    .call 6 [(.var 238), (.var 239), (.var 240), (.var 242), (.var 243), (.var 244), (.var 245)] none 4,
    .call 8 [(.var 246), (.var 247), (.var 248), (.var 249)] none 4,
    .call 3 [(.var 0), (.var 1), (.var 2), (.var 9), (.var 10), (.var 11), (.var 253)] none 4,
    .call 3 [(.var 3), (.var 4), (.var 5), (.var 6), (.var 7), (.var 8), (.var 257)] none 4,
    .call 5 [(.var 254), (.var 255), (.var 256), (.var 258), (.var 259), (.var 260), (.var 261)] none 4,
    .call 8 [(.var 262), (.var 263), (.var 264), (.var 265)] none 4,
    .call 3 [(.var 0), (.var 1), (.var 2), (.var 9), (.var 10), (.var 11), (.var 269)] none 4,
    .call 3 [(.var 3), (.var 4), (.var 5), (.var 6), (.var 7), (.var 8), (.var 273)] none 4,
    .call 6 [(.var 270), (.var 271), (.var 272), (.var 274), (.var 275), (.var 276), (.var 277)] none 4,
    .call 7 [(.var 278), (.var 279), (.var 280), (.var 281)] none 4]
  (.evs [.call 9 [(.var 42), (.var 43), (.var 44), (.var 58), (.var 59), (.var 60), (.var 74), (.var 75), (.var 76), (.var 90), (.var 91), (.var 92), (.var 106), (.var 107), (.var 108), (.var 122), (.var 123), (.var 124), (.var 138), (.var 139), (.var 140), (.var 154), (.var 155), (.var 156), (.var 170), (.var 171), (.var 172), (.var 186), (.var 187), (.var 188), (.var 202), (.var 203), (.var 204), (.var 218), (.var 219), (.var 220), (.var 234), (.var 235), (.var 236), (.var 250), (.var 251), (.var 252), (.var 266), (.var 267), (.var 268), (.var 282), (.var 283), (.var 284), (.var 285)] none 50]
  (.ret [(.var 286), (.var 287), (.var 288), (.var 289), (.var 290), (.var 291), (.var 292), (.var 293), (.var 294), (.var 295), (.var 296), (.var 297), (.var 298), (.var 299), (.var 300), (.var 301), (.var 302), (.var 303), (.var 304), (.var 305), (.var 306), (.var 307), (.var 308), (.var 309), (.var 310), (.var 311), (.var 312), (.var 313), (.var 314), (.var 315), (.var 316), (.var 317), (.var 318), (.var 319), (.var 320), (.var 321), (.var 322), (.var 323), (.var 324), (.var 325), (.var 326), (.var 327), (.var 328), (.var 329), (.var 330), (.var 331), (.var 332), (.var 333), (.var 334)])))))
def Fs_iTableOf : List Fun1 := [G_iMatValid, G_need, G_power, G_iPair, G_iHalfS, G_add, G_less, G_real, G_imag, G_gotTable]
def F_iTableOf : Fun1 := ofTree Fs_iTableOf tr_iTableOf
def G_iTableOf : Fun1 := ⟨fun _ => True, fun ins => nttW 16 (matQ fun k => q3 ins (3 * k)) (toD fun k => q3 ins (3 * k))⟩
theorem out_iTableOf : (fun (g : Nat → Int) => F_iTableOf.out (ivs g 0 12)) = fun g =>
    gotL (tofI fun k => q3 (ivs g 0 12) (3 * k)).2 (tofI fun k => q3 (ivs g 0 12) (3 * k)).1 ++ [.bool (!(tofI fun k => q3 (ivs g 0 12) (3 * k)).2)] := by kernel_rfl
theorem as_iTableOf (ins : List Value) (ht : TypedL (intTs 12 ++ []) ins) (_ : G_iTableOf.pre ins) : F_iTableOf.pre ins ∧ F_iTableOf.out ins = G_iTableOf.out ins := by
  obtain ⟨g, r, rfl, h1, _⟩ := ints_lit 12 0 ht
  obtain rfl := ints0 h1
  rw [List.append_nil]
  refine ⟨okT_free (by intro F hF ins; simp only [Fs_iTableOf, List.mem_cons, List.not_mem_nil, or_false] at hF; rcases hF with rfl | rfl | rfl | rfl | rfl | rfl | rfl | rfl | rfl | rfl <;> trivial) _ _ (by kernel_rfl), (congrFun out_iTableOf g).trans ?_⟩
  exact (tofI_eq _).trans (nttV_eq _ _ _)
def tr_sTableOf : Tr :=
  (.evs [.call 0 [(.var 0), (.var 1), (.var 2), (.var 3), (.var 4), (.var 5), (.var 6), (.var 7), (.var 8), (.var 9), (.var 10), (.var 11)] none 1]
  (.ite (.not (.var 12))
  (.ret [(.int .i64 0), (.int .i64 0), (.int .i64 0), (.int .i64 0), (.int .i64 0), (.int .i64 0), (.int .i64 0), (.int .i64 0), (.int .i64 0), (.int .i64 0), (.int .i64 0), (.int .i64 0), (.int .i64 0), (.int .i64 0), (.int .i64 0), (.int .i64 0), (.int .i64 0), (.int .i64 0), (.int .i64 0), (.int .i64 0), (.int .i64 0), (.int .i64 0), (.int .i64 0), (.int .i64 0), (.int .i64 0), (.int .i64 0), (.int .i64 0), (.int .i64 0), (.int .i64 0), (.int .i64 0), (.int .i64 0), (.int .i64 0), (.int .i64 0), (.int .i64 0), (.int .i64 0), (.int .i64 0), (.int .i64 0), (.int .i64 0), (.int .i64 0), (.int .i64 0), (.int .i64 0), (.int .i64 0), (.int .i64 0), (.int .i64 0), (.int .i64 0), (.int .i64 0), (.int .i64 0), (.int .i64 0), (.bool false)])
  (.evs [.call 1 [(.var 0), (.var 1), (.var 2), (.var 3), (.var 4), (.var 5), (.var 6), (.var 7), (.var 8), (.var 9), (.var 10), (.var 11), (.var 12)] none 4]
   (.evs [.call 2 [(.var 0), (.var 1), (.var 2), (.var 3), (.var 4), (.var 5), (.var 6), (.var 7), (.var 8), (.var 9), (.var 10), (.var 11), (.var 16)] none 4]
   (.evs [.call 5 [(.var 0), (.var 1), (.var 2), (.var 3), (.var 4), (.var 5), (.var 6), (.var 7), (.var 8), (.var 9), (.var 10), (.var 11), (.var 20)] none 4]
   (.evs [.call 6 [(.var 0), (.var 1), (.var 2), (.var 3), (.var 4), (.var 5), (.var 6), (.var 7), (.var 8), (.var 9), (.var 10), (.var 11), (.var 24)] none 4]
   (.evs [.call 3 [(.var 0), (.var 1), (.var 2), (.var 3), (.var 4), (.var 5), (.var 6), (.var 7), (.var 8), (.var 9), (.var 10), (.var 11), (.var 28)] none 4]
   (.evs [.call 4 [(.var 0), (.var 1), (.var 2), (.var 3), (.var 4), (.var 5), (.var 6), (.var 7), (.var 8), (.var 9), (.var 10), (.var 11), (.var 32)] none 4]
   (.evs [.call 7 [(.var 0), (.var 1), (.var 2), (.var 3), (.var 4), (.var 5), (.var 6), (.var 7), (.var 8), (.var 9), (.var 10), (.var 11), (.var 36)] none 4]
   (.evs [.call 8 [(.var 0), (.var 1), (.var 2), (.var 3), (.var 4), (.var 5), (.var 6), (.var 7), (.var 8), (.var 9), (.var 10), (.var 11), (.var 40)] none 4]
   (.evs [.call 9 [(.var 0), (.var 1), (.var 2), (.var 3), (.var 4), (.var 5), (.var 6), (.var 7), (.var 8), (.var 9), (.var 10), (.var 11), (.var 44)] none 4]
   (.evs [.call 10 [(.var 0), (.var 1), (.var 2), (.var 3), (.var 4), (.var 5), (.var 6), (.var 7), (.var 8), (.var 9), (.var 10), (.var 11), (.var 48)] none 4]
   (.evs [.call 11 [(.var 0), (.var 1), (.var 2), (.var 3), (.var 4), (.var 5), (.var 6), (.var 7), (.var 8), (.var 9), (.var 10), (.var 11), (.var 52)] none 4]
   (.evs [.call 12 [(.var 0), (.var 1), (.var 2), (.var 3), (.var 4), (.var 5), (.var 6), (.var 7), (.var 8), (.var 9), (.var 10), (.var 11), (.var 56)] none 4]
   (.evs [.call 13 [(.var 0), (.var 1), (.var 2), (.var 3), (.var 4), (.var 5), (.var 6), (.var 7), (.var 8), (.var 9), (.var 10), (.var 11), (.var 60)] none 4]
   (.evs [.call 14 [(.var 0), (.var 1), (.var 2), (.var 3), (.var 4), (.var 5), (.var 6), (.var 7), (.var 8), (.var 9), (.var 10), (.var 11), (.var 64)] none 4]
   (.evs [.call 15 [(.var 0), (.var 1), (.var 2), (.var 3), (.var 4), (.var 5), (.var 6), (.var 7), (.var 8), (.var 9), (.var 10), (.var 11), (.var 68)] none 4]
   (.evs [.call 16 [(.var 0), (.var 1), (.var 2), (.var 3), (.var 4), (.var 5), (.var 6), (.var 7), (.var 8), (.var 9), (.var 10), (.var 11), (.var 72)] none 4]
   (.ite (.not (.var 76))
   (.ret [(.int .i64 0), (.int .i64 0), (.int .i64 0), (.int .i64 0), (.int .i64 0), (.int .i64 0), (.int .i64 0), (.int .i64 0), (.int .i64 0), (.int .i64 0), (.int .i64 0), (.int .i64 0), (.int .i64 0), (.int .i64 0), (.int .i64 0), (.int .i64 0), (.int .i64 0), (.int .i64 0), (.int .i64 0), (.int .i64 0), (.int .i64 0), (.int .i64 0), (.int .i64 0), (.int .i64 0), (.int .i64 0), (.int .i64 0), (.int .i64 0), (.int .i64 0), (.int .i64 0), (.int .i64 0), (.int .i64 0), (.int .i64 0), (.int .i64 0), (.int .i64 0), (.int .i64 0), (.int .i64 0), (.int .i64 0), (.int .i64 0), (.int .i64 0), (.int .i64 0), (.int .i64 0), (.int .i64 0), (.int .i64 0), (.int .i64 0), (.int .i64 0), (.int .i64 0), (.int .i64 0), (.int .i64 0), (.bool false)])
   (.ret [(.var 13), (.var 14), (.var 15), (.var 17), (.var 18), (.var 19), (.var 21), (.var 22), (.var 23), (.var 25), (.var 26), (.var 27), (.var 29), (.var 30), (.var 31), (.var 33), (.var 34), (.var 35), (.var 37), (.var 38), (.var 39), (.var 41), (.var 42), (.var 43), (.var 45), (.var 46), (.var 47), (.var 49), (.var 50), (.var 51), (.var 53), (.var 54), (.var 55), (.var 57), (.var 58), (.var 59), (.var 61), (.var 62), (.var 63), (.var 65), (.var 66), (.var 67), (.var 69), (.var 70), (.var 71), (.var 73), (.var 74), (.var 75), (.bool true)]))))))))))))))))))))
def Fs_sTableOf : List Fun1 := [G_sMatValid, F_l6tPowersA, F_l6tPowersB, F_l6tPowersC, F_l6tPowersD, F_l6tTwo2, F_l6tTwo3, F_l6tTwo6, F_l6tTwo7, F_l6tTwo8, F_l6tTwo9, F_l6tTwo10, F_l6tTwo11, F_l6tTwo12, F_l6tTwo13, F_l6tTwo14, F_l6tTwo15]
def F_sTableOf : Fun1 := ofTree Fs_sTableOf tr_sTableOf
theorem pre_l6tPowersA (ins : List Value) : F_l6tPowersA.pre ins := okT_free (by intro F hF ins; simp only [Fs_l6tPowersA, List.mem_cons, List.not_mem_nil, or_false] at hF; rcases hF with rfl | rfl | rfl | rfl <;> trivial) _ _ (by kernel_rfl)
theorem pre_l6tPowersB (ins : List Value) : F_l6tPowersB.pre ins := okT_free (by intro F hF ins; simp only [Fs_l6tPowersB, List.mem_cons, List.not_mem_nil, or_false] at hF; rcases hF with rfl | rfl | rfl | rfl <;> trivial) _ _ (by kernel_rfl)
theorem pre_l6tPowersC (ins : List Value) : F_l6tPowersC.pre ins := okT_free (by intro F hF ins; simp only [Fs_l6tPowersC, List.mem_cons, List.not_mem_nil, or_false] at hF; rcases hF with rfl | rfl | rfl | rfl <;> trivial) _ _ (by kernel_rfl)
theorem pre_l6tPowersD (ins : List Value) : F_l6tPowersD.pre ins := okT_free (by intro F hF ins; simp only [Fs_l6tPowersD, List.mem_cons, List.not_mem_nil, or_false] at hF; rcases hF with rfl | rfl | rfl | rfl <;> trivial) _ _ (by kernel_rfl)
theorem pre_l6tTwo2 (ins : List Value) : F_l6tTwo2.pre ins := okT_free (by intro F hF ins; simp only [Fs_l6tTwo2, List.mem_cons, List.not_mem_nil, or_false] at hF; rcases hF with rfl | rfl | rfl <;> trivial) _ _ (by kernel_rfl)
theorem pre_l6tTwo3 (ins : List Value) : F_l6tTwo3.pre ins := okT_free (by intro F hF ins; simp only [Fs_l6tTwo3, List.mem_cons, List.not_mem_nil, or_false] at hF; rcases hF with rfl | rfl | rfl <;> trivial) _ _ (by kernel_rfl)
theorem pre_l6tTwo6 (ins : List Value) : F_l6tTwo6.pre ins := okT_free (by intro F hF ins; simp only [Fs_l6tTwo6, List.mem_cons, List.not_mem_nil, or_false] at hF; rcases hF with rfl | rfl | rfl <;> trivial) _ _ (by kernel_rfl)
theorem pre_l6tTwo7 (ins : List Value) : F_l6tTwo7.pre ins := okT_free (by intro F hF ins; simp only [Fs_l6tTwo7, List.mem_cons, List.not_mem_nil, or_false] at hF; rcases hF with rfl | rfl | rfl <;> trivial) _ _ (by kernel_rfl)
theorem pre_l6tTwo8 (ins : List Value) : F_l6tTwo8.pre ins := okT_free (by intro F hF ins; simp only [Fs_l6tTwo8, List.mem_cons, List.not_mem_nil, or_false] at hF; rcases hF with rfl | rfl | rfl <;> trivial) _ _ (by kernel_rfl)
theorem pre_l6tTwo9 (ins : List Value) : F_l6tTwo9.pre ins := okT_free (by intro F hF ins; simp only [Fs_l6tTwo9, List.mem_cons, List.not_mem_nil, or_false] at hF; rcases hF with rfl | rfl | rfl <;> trivial) _ _ (by kernel_rfl)
theorem pre_l6tTwo10 (ins : List Value) : F_l6tTwo10.pre ins := okT_free (by intro F hF ins; simp only [Fs_l6tTwo10, List.mem_cons, List.not_mem_nil, or_false] at hF; rcases hF with rfl | rfl | rfl <;> trivial) _ _ (by kernel_rfl)
theorem pre_l6tTwo11 (ins : List Value) : F_l6tTwo11.pre ins := okT_free (by intro F hF ins; simp only [Fs_l6tTwo11, List.mem_cons, List.not_mem_nil, or_false] at hF; rcases hF with rfl | rfl | rfl <;> trivial) _ _ (by kernel_rfl)
theorem pre_l6tTwo12 (ins : List Value) : F_l6tTwo12.pre ins := okT_free (by intro F hF ins; simp only [Fs_l6tTwo12, List.mem_cons, List.not_mem_nil, or_false] at hF; rcases hF with rfl | rfl | rfl <;> trivial) _ _ (by kernel_rfl)
theorem pre_l6tTwo13 (ins : List Value) : F_l6tTwo13.pre ins := okT_free (by intro F hF ins; simp only [Fs_l6tTwo13, List.mem_cons, List.not_mem_nil, or_false] at hF; rcases hF with rfl | rfl | rfl <;> trivial) _ _ (by kernel_rfl)
theorem pre_l6tTwo14 (ins : List Value) : F_l6tTwo14.pre ins := okT_free (by intro F hF ins; simp only [Fs_l6tTwo14, List.mem_cons, List.not_mem_nil, or_false] at hF; rcases hF with rfl | rfl | rfl <;> trivial) _ _ (by kernel_rfl)
theorem pre_l6tTwo15 (ins : List Value) : F_l6tTwo15.pre ins := okT_free (by intro F hF ins; simp only [Fs_l6tTwo15, List.mem_cons, List.not_mem_nil, or_false] at hF; rcases hF with rfl | rfl | rfl <;> trivial) _ _ (by kernel_rfl)
def G_sTableOf : Fun1 := ⟨fun _ => True, fun ins => nttW 16 (matQ fun k => q3 ins (3 * k)) (toD fun k => q3 ins (3 * k))⟩
theorem out_sTableOf : (fun (g : Nat → Int) => F_sTableOf.out (ivs g 0 12)) = fun g =>
    if toB (.bool (!matQ fun k => q3 (ivs g 0 12) (3 * k))) = true then zeros 48 ++ [.bool false] else nfinS 16 (tofS fun k => q3 (ivs g 0 12) (3 * k)).2 (tofS fun k => q3 (ivs g 0 12) (3 * k)).1 := by kernel_rfl
theorem as_sTableOf (ins : List Value) (ht : TypedL (intTs 12 ++ []) ins) (_ : G_sTableOf.pre ins) : F_sTableOf.pre ins ∧ F_sTableOf.out ins = G_sTableOf.out ins := by
  obtain ⟨g, r, rfl, h1, _⟩ := ints_lit 12 0 ht
  obtain rfl := ints0 h1
  rw [List.append_nil]
  have hF : Free Fs_sTableOf [true, true, true, true, true, true, true, true, true, true, true, true, true, true, true, true, true] :=
    .yes (fun _ => trivial) (.yes pre_l6tPowersA (.yes pre_l6tPowersB (.yes pre_l6tPowersC (.yes pre_l6tPowersD (.yes pre_l6tTwo2 (.yes pre_l6tTwo3 (.yes pre_l6tTwo6 (.yes pre_l6tTwo7 (.yes pre_l6tTwo8 (.yes pre_l6tTwo9 (.yes pre_l6tTwo10 (.yes pre_l6tTwo11 (.yes pre_l6tTwo12 (.yes pre_l6tTwo13 (.yes pre_l6tTwo14 (.yes pre_l6tTwo15 .nil))))))))))))))))
  refine ⟨okT_mask hF _ _ (by kernel_rfl), (congrFun out_sTableOf g).trans ?_⟩
  exact (tofS_eq _).trans (nttV_eq _ _ _)
def tr_mcell00 : Tr :=
  (.evs [.call 0 [(.var 0), (.var 1), (.var 2), (.var 12), (.var 13), (.var 14), (.var 24)] none 4,
    .call 0 [(.var 3), (.var 4), (.var 5), (.var 18), (.var 19), (.var 20), (.var 28)] none 4,
    .call 1 [(.var 25), (.var 26), (.var 27), (.var 29), (.var 30), (.var 31), (.var 32)] none 4]
  (.ret [(.var 33), (.var 34), (.var 35), (.var 0), (.var 1), (.var 2), (.var 3), (.var 4), (.var 5), (.var 6), (.var 7), (.var 8), (.var 9), (.var 10), (.var 11), (.var 12), (.var 13), (.var 14), (.var 15), (.var 16), (.var 17), (.var 18), (.var 19), (.var 20), (.var 21), (.var 22), (.var 23), (.var 36)]))
def Fs_mcell00 : List Fun1 := [G_times, G_add]
def F_mcell00 : Fun1 := ofTree Fs_mcell00 tr_mcell00
def G_mcell00 : Fun1 := ⟨fun _ => True, fun ins => fl3 [(mixI (b0 ins 24) (q3 ins 0) (q3 ins 12) (q3 ins 3) (q3 ins 18)).1] ++ (copyV ins 0 24 ++ [.bool (mixI (b0 ins 24) (q3 ins 0) (q3 ins 12) (q3 ins 3) (q3 ins 18)).2])⟩
theorem out_mcell00 : (fun (g : Nat → Int) (s : Bool) => F_mcell00.out (ivs g 0 24 ++ [.bool s])) = fun g s => G_mcell00.out (ivs g 0 24 ++ [.bool s]) := by kernel_rfl
theorem as_mcell00 (ins : List Value) (ht : TypedL (intTs 24 ++ [.bool]) ins) (_ : G_mcell00.pre ins) : F_mcell00.pre ins ∧ F_mcell00.out ins = G_mcell00.out ins := by
  obtain ⟨g, r, rfl, h1, _⟩ := ints_lit 24 0 ht
  obtain ⟨s, r2, rfl, h2⟩ := bool_cons h1
  obtain rfl := ints0 h2
  exact ⟨okT_free (by intro F hF ins; simp only [Fs_mcell00, List.mem_cons, List.not_mem_nil, or_false] at hF; rcases hF with rfl | rfl <;> trivial) _ _ (by kernel_rfl), congrFun (congrFun out_mcell00 g) s⟩
def tr_mcell01 : Tr :=
  (.evs [.call 0 [(.var 0), (.var 1), (.var 2), (.var 15), (.var 16), (.var 17), (.var 24)] none 4,
    .call 0 [(.var 3), (.var 4), (.var 5), (.var 21), (.var 22), (.var 23), (.var 28)] none 4,
    .call 1 [(.var 25), (.var 26), (.var 27), (.var 29), (.var 30), (.var 31), (.var 32)] none 4]
  (.ret [(.var 33), (.var 34), (.var 35), (.var 0), (.var 1), (.var 2), (.var 3), (.var 4), (.var 5), (.var 6), (.var 7), (.var 8), (.var 9), (.var 10), (.var 11), (.var 12), (.var 13), (.var 14), (.var 15), (.var 16), (.var 17), (.var 18), (.var 19), (.var 20), (.var 21), (.var 22), (.var 23), (.var 36)]))
def Fs_mcell01 : List Fun1 := [G_times, G_add]
def F_mcell01 : Fun1 := ofTree Fs_mcell01 tr_mcell01
def G_mcell01 : Fun1 := ⟨fun _ => True, fun ins => fl3 [(mixI (b0 ins 24) (q3 ins 0) (q3 ins 15) (q3 ins 3) (q3 ins 21)).1] ++ (copyV ins 0 24 ++ [.bool (mixI (b0 ins 24) (q3 ins 0) (q3 ins 15) (q3 ins 3) (q3 ins 21)).2])⟩
theorem out_mcell01 : (fun (g : Nat → Int) (s : Bool) => F_mcell01.out (ivs g 0 24 ++ [.bool s])) = fun g s => G_mcell01.out (ivs g 0 24 ++ [.bool s]) := by kernel_rfl
theorem as_mcell01 (ins : List Value) (ht : TypedL (intTs 24 ++ [.bool]) ins) (_ : G_mcell01.pre ins) : F_mcell01.pre ins ∧ F_mcell01.out ins = G_mcell01.out ins := by
  obtain ⟨g, r, rfl, h1, _⟩ := ints_lit 24 0 ht
  obtain ⟨s, r2, rfl, h2⟩ := bool_cons h1
  obtain rfl := ints0 h2
  exact ⟨okT_free (by intro F hF ins; simp only [Fs_mcell01, List.mem_cons, List.not_mem_nil, or_false] at hF; rcases hF with rfl | rfl <;> trivial) _ _ (by kernel_rfl), congrFun (congrFun out_mcell01 g) s⟩
def tr_mcell10 : Tr :=
  (.evs [.call 0 [(.var 6), (.var 7), (.var 8), (.var 12), (.var 13), (.var 14), (.var 24)] none 4,
    .call 0 [(.var 9), (.var 10), (.var 11), (.var 18), (.var 19), (.var 20), (.var 28)] none 4,
    .call 1 [(.var 25), (.var 26), (.var 27), (.var 29), (.var 30), (.var 31), (.var 32)] none 4]
  (.ret [(.var 33), (.var 34), (.var 35), (.var 0), (.var 1), (.var 2), (.var 3), (.var 4), (.var 5), (.var 6), (.var 7), (.var 8), (.var 9), (.var 10), (.var 11), (.var 12), (.var 13), (.var 14), (.var 15), (.var 16), (.var 17), (.var 18), (.var 19), (.var 20), (.var 21), (.var 22), (.var 23), (.var 36)]))
def Fs_mcell10 : List Fun1 := [G_times, G_add]
def F_mcell10 : Fun1 := ofTree Fs_mcell10 tr_mcell10
def G_mcell10 : Fun1 := ⟨fun _ => True, fun ins => fl3 [(mixI (b0 ins 24) (q3 ins 6) (q3 ins 12) (q3 ins 9) (q3 ins 18)).1] ++ (copyV ins 0 24 ++ [.bool (mixI (b0 ins 24) (q3 ins 6) (q3 ins 12) (q3 ins 9) (q3 ins 18)).2])⟩
theorem out_mcell10 : (fun (g : Nat → Int) (s : Bool) => F_mcell10.out (ivs g 0 24 ++ [.bool s])) = fun g s => G_mcell10.out (ivs g 0 24 ++ [.bool s]) := by kernel_rfl
theorem as_mcell10 (ins : List Value) (ht : TypedL (intTs 24 ++ [.bool]) ins) (_ : G_mcell10.pre ins) : F_mcell10.pre ins ∧ F_mcell10.out ins = G_mcell10.out ins := by
  obtain ⟨g, r, rfl, h1, _⟩ := ints_lit 24 0 ht
  obtain ⟨s, r2, rfl, h2⟩ := bool_cons h1
  obtain rfl := ints0 h2
  exact ⟨okT_free (by intro F hF ins; simp only [Fs_mcell10, List.mem_cons, List.not_mem_nil, or_false] at hF; rcases hF with rfl | rfl <;> trivial) _ _ (by kernel_rfl), congrFun (congrFun out_mcell10 g) s⟩
def tr_mcell11 : Tr :=
  (.evs [.call 0 [(.var 6), (.var 7), (.var 8), (.var 15), (.var 16), (.var 17), (.var 24)] none 4,
    .call 0 [(.var 9), (.var 10), (.var 11), (.var 21), (.var 22), (.var 23), (.var 28)] none 4,
    .call 1 [(.var 25), (.var 26), (.var 27), (.var 29), (.var 30), (.var 31), (.var 32)] none 4]
  (.ret [(.var 33), (.var 34), (.var 35), (.var 0), (.var 1), (.var 2), (.var 3), (.var 4), (.var 5), (.var 6), (.var 7), (.var 8), (.var 9), (.var 10), (.var 11), (.var 12), (.var 13), (.var 14), (.var 15), (.var 16), (.var 17), (.var 18), (.var 19), (.var 20), (.var 21), (.var 22), (.var 23), (.var 36)]))
def Fs_mcell11 : List Fun1 := [G_times, G_add]
def F_mcell11 : Fun1 := ofTree Fs_mcell11 tr_mcell11
def G_mcell11 : Fun1 := ⟨fun _ => True, fun ins => fl3 [(mixI (b0 ins 24) (q3 ins 6) (q3 ins 15) (q3 ins 9) (q3 ins 21)).1] ++ (copyV ins 0 24 ++ [.bool (mixI (b0 ins 24) (q3 ins 6) (q3 ins 15) (q3 ins 9) (q3 ins 21)).2])⟩
theorem out_mcell11 : (fun (g : Nat → Int) (s : Bool) => F_mcell11.out (ivs g 0 24 ++ [.bool s])) = fun g s => G_mcell11.out (ivs g 0 24 ++ [.bool s]) := by kernel_rfl
theorem as_mcell11 (ins : List Value) (ht : TypedL (intTs 24 ++ [.bool]) ins) (_ : G_mcell11.pre ins) : F_mcell11.pre ins ∧ F_mcell11.out ins = G_mcell11.out ins := by
  obtain ⟨g, r, rfl, h1, _⟩ := ints_lit 24 0 ht
  obtain ⟨s, r2, rfl, h2⟩ := bool_cons h1
  obtain rfl := ints0 h2
  exact ⟨okT_free (by intro F hF ins; simp only [Fs_mcell11, List.mem_cons, List.not_mem_nil, or_false] at hF; rcases hF with rfl | rfl <;> trivial) _ _ (by kernel_rfl), congrFun (congrFun out_mcell11 g) s⟩
def tr_gotMat : Tr :=
  (.ite (.var 12)
  (.ret [(.int .i64 0), (.int .i64 0), (.int .i64 0), (.int .i64 0), (.int .i64 0), (.int .i64 0), (.int .i64 0), (.int .i64 0), (.int .i64 0), (.int .i64 0), (.int .i64 0), (.int .i64 0), (.bool false), (.var 12)])
  (.ret [(.var 0), (.var 1), (.var 2), (.var 3), (.var 4), (.var 5), (.var 6), (.var 7), (.var 8), (.var 9), (.var 10), (.var 11), (.bool true), (.var 12)]))
def Fs_gotMat : List Fun1 := []
def F_gotMat : Fun1 := ofTree Fs_gotMat tr_gotMat
def G_gotMat : Fun1 := ⟨fun _ => True, fun ins => gotV (b0 ins 12) ins 0 12 ++ [.bool (!b0 ins 12), .bool (b0 ins 12)]⟩
theorem out_gotMat : (fun (g : Nat → Int) => F_gotMat.out (ivs g 0 12 ++ [.bool true])) = fun g => G_gotMat.out (ivs g 0 12 ++ [.bool true]) := by kernel_rfl
theorem out_gotMat' : (fun (g : Nat → Int) => F_gotMat.out (ivs g 0 12 ++ [.bool false])) = fun g => G_gotMat.out (ivs g 0 12 ++ [.bool false]) := by kernel_rfl
theorem as_gotMat (ins : List Value) (ht : TypedL (intTs 12 ++ [.bool]) ins) (_ : G_gotMat.pre ins) : F_gotMat.pre ins ∧ F_gotMat.out ins = G_gotMat.out ins := by
  obtain ⟨g, r, rfl, h1, _⟩ := ints_lit 12 0 ht
  obtain ⟨b, r2, rfl, h2⟩ := bool_cons h1
  obtain rfl := ints0 h2
  cases b
  · exact ⟨trivial, congrFun out_gotMat' g⟩
  · exact ⟨trivial, congrFun out_gotMat g⟩
def tr_iMatTimes : Tr :=
  (.evs [.call 0 [(.var 0), (.var 1), (.var 2), (.var 3), (.var 4), (.var 5), (.var 6), (.var 7), (.var 8), (.var 9), (.var 10), (.var 11)] none 1,
    .call 0 [(.var 12), (.var 13), (.var 14), (.var 15), (.var 16), (.var 17), (.var 18), (.var 19), (.var 20), (.var 21), (.var 22), (.var 23)] (some (.var 24)) 1,
    .call 1 [(.ite (.var 24) (.var 25) (.bool false)), (.bool false)] none 1]
  (.evs [.call 2 [(.var 0), (.var 1), (.var 2), (.var 3), (.var 4), (.var 5), (.var 6), (.var 7), (.var 8), (.var 9), (.var 10), (.var 11), (.var 12), (.var 13), (.var 14), (.var 15), (.var 16), (.var 17), (.var 18), (.var 19), (.var 20), (.var 21), (.var 22), (.var 23), (.var 26)] none 28,
    .call 3 [(.var 30), (.var 31), (.var 32), (.var 33), (.var 34), (.var 35), (.var 36), (.var 37), (.var 38), (.var 39), (.var 40), (.var 41), (.var 42), (.var 43), (.var 44), (.var 45), (.var 46), (.var 47), (.var 48), (.var 49), (.var 50), (.var 51), (.var 52), (.var 53), (.var 54)] none 28,
    .call 4 [(.var 58), (.var 59), (.var 60), (.var 61), (.var 62), (.var 63), (.var 64), (.var 65), (.var 66), (.var 67), (.var 68), (.var 69), (.var 70), (.var 71), (.var 72), (.var 73), (.var 74), (.var 75), (.var 76), (.var 77), (.var 78), (.var 79), (.var 80), (.var 81), (.var 82)] none 28,
    .call 5 [(.var 86), (.var 87), (.var 88), (.var 89), (.var 90), (.var 91), (.var 92), (.var 93), (.var 94), (.var 95), (.var 96), (.var 97), (.var 98), (.var 99), (.var 100), (.var 101), (.var 102), (.var 103), (.var 104), (.var 105), (.var 106), (.var 107), (.var 108), (.var 109), (.var 110)] none 28,
    .call 6 [(.var 27), (.var 28), (.var 29), (.var 55), (.var 56), (.var 57), (.var 83), (.var 84), (.var 85), (.var 111), (.var 112), (.var 113), (.var 138)] none 14]
  (.ret [(.var 139), (.var 140), (.var 141), (.var 142), (.var 143), (.var 144), (.var 145), (.var 146), (.var 147), (.var 148), (.var 149), (.var 150), (.var 151)])))
def Fs_iMatTimes : List Fun1 := [G_iMatValid, G_need, G_mcell00, G_mcell01, G_mcell10, G_mcell11, G_gotMat]
def F_iMatTimes : Fun1 := ofTree Fs_iMatTimes tr_iMatTimes
def G_iMatTimes : Fun1 := ⟨fun _ => True, fun ins => nttW 4 (matQ (fun k => q3 ins (3 * k)) && matQ (fun k => q3 ins (12 + 3 * k))) (mulM (fun k => q3 ins (3 * k)) (fun k => q3 ins (12 + 3 * k)))⟩
theorem out_iMatTimes : (fun (g : Nat → Int) => evalT' Fs_iMatTimes tr_iMatTimes (ivs g 0 24)) = fun g =>
    gotL (mtI (fun k => q3 (ivs g 0 24) (3 * k)) (fun k => q3 (ivs g 0 24) (12 + 3 * k))).2 (mtI (fun k => q3 (ivs g 0 24) (3 * k)) (fun k => q3 (ivs g 0 24) (12 + 3 * k))).1 ++ [.bool (!(mtI (fun k => q3 (ivs g 0 24) (3 * k)) (fun k => q3 (ivs g 0 24) (12 + 3 * k))).2)] := by kernel_rfl
theorem as_iMatTimes (ins : List Value) (ht : TypedL (intTs 24 ++ []) ins) (_ : G_iMatTimes.pre ins) : F_iMatTimes.pre ins ∧ F_iMatTimes.out ins = G_iMatTimes.out ins := by
  obtain ⟨g, r, rfl, h1, _⟩ := ints_lit 24 0 ht
  obtain rfl := ints0 h1
  rw [List.append_nil]
  refine ⟨okT_free (by intro F hF ins; simp only [Fs_iMatTimes, List.mem_cons, List.not_mem_nil, or_false] at hF; rcases hF with rfl | rfl | rfl | rfl | rfl | rfl | rfl <;> trivial) _ _ (by kernel_rfl), (evalT_sel (lens := [1]) (Lens.cons (fun _ => rfl) Lens.nil) _ _ (by kernel_rfl)).trans ((congrFun out_iMatTimes g).trans ?_)⟩
  exact (mtI_eq _ _).trans (nttV_eq _ _ _)
def tr_l5Four : Tr :=
  (.ite (.not (.var 12))
  (.ret [(.int .i64 0), (.int .i64 0), (.int .i64 0), (.int .i64 0), (.int .i64 0), (.int .i64 0), (.int .i64 0), (.int .i64 0), (.int .i64 0), (.int .i64 0), (.int .i64 0), (.int .i64 0), (.bool false)])
  (.ret [(.var 0), (.var 1), (.var 2), (.var 3), (.var 4), (.var 5), (.var 6), (.var 7), (.var 8), (.var 9), (.var 10), (.var 11), (.bool true)]))
def Fs_l5Four : List Fun1 := []
def F_l5Four : Fun1 := ofTree Fs_l5Four tr_l5Four
def G_l5Four : Fun1 := ⟨fun _ => True, fun ins => gotV (!b0 ins 12) ins 0 12 ++ [.bool (b0 ins 12)]⟩
theorem out_l5Four : (fun (g : Nat → Int) => F_l5Four.out (ivs g 0 12 ++ [.bool true])) = fun g => G_l5Four.out (ivs g 0 12 ++ [.bool true]) := by kernel_rfl
theorem out_l5Four' : (fun (g : Nat → Int) => F_l5Four.out (ivs g 0 12 ++ [.bool false])) = fun g => G_l5Four.out (ivs g 0 12 ++ [.bool false]) := by kernel_rfl
theorem as_l5Four (ins : List Value) (ht : TypedL (intTs 12 ++ [.bool]) ins) (_ : G_l5Four.pre ins) : F_l5Four.pre ins ∧ F_l5Four.out ins = G_l5Four.out ins := by
  obtain ⟨g, r, rfl, h1, _⟩ := ints_lit 12 0 ht
  obtain ⟨b, r2, rfl, h2⟩ := bool_cons h1
  obtain rfl := ints0 h2
  refine ⟨okT_free (fun F hF => by cases hF) _ _ (by kernel_rfl), ?_⟩
  cases b
  · exact congrFun out_l5Four' g
  · exact congrFun out_l5Four g
def tr_sMatTimes : Tr :=
  (.evs [.call 0 [(.var 0), (.var 1), (.var 2), (.var 3), (.var 4), (.var 5), (.var 6), (.var 7), (.var 8), (.var 9), (.var 10), (.var 11)] none 1,
    .call 0 [(.var 12), (.var 13), (.var 14), (.var 15), (.var 16), (.var 17), (.var 18), (.var 19), (.var 20), (.var 21), (.var 22), (.var 23)] (some (.not (.not (.var 24)))) 1]
  (.ite (.ite (.not (.var 24)) (.bool true) (.not (.var 25)))
  (.ret [(.int .i64 0), (.int .i64 0), (.int .i64 0), (.int .i64 0), (.int .i64 0), (.int .i64 0), (.int .i64 0), (.int .i64 0), (.int .i64 0), (.int .i64 0), (.int .i64 0), (.int .i64 0), (.bool false)])
  (.evs [.call 1 [(.var 0), (.var 1), (.var 2), (.var 12), (.var 13), (.var 14), (.var 3), (.var 4), (.var 5), (.var 18), (.var 19), (.var 20)] none 4]
   (.evs [.call 1 [(.var 0), (.var 1), (.var 2), (.var 15), (.var 16), (.var 17), (.var 3), (.var 4), (.var 5), (.var 21), (.var 22), (.var 23)] none 4]
   (.evs [.call 1 [(.var 6), (.var 7), (.var 8), (.var 12), (.var 13), (.var 14), (.var 9), (.var 10), (.var 11), (.var 18), (.var 19), (.var 20)] none 4]
   (.evs [.call 1 [(.var 6), (.var 7), (.var 8), (.var 15), (.var 16), (.var 17), (.var 9), (.var 10), (.var 11), (.var 21), (.var 22), (.var 23)] none 4]
   (.evs [.call 2 [(.var 26), (.var 27), (.var 28), (.var 30), (.var 31), (.var 32), (.var 34), (.var 35), (.var 36), (.var 38), (.var 39), (.var 40), (.ite (.ite (.ite (.var 29) (.var 33) (.bool false)) (.var 37) (.bool false)) (.var 41) (.bool false))] none 13]
   (.ret [(.var 42), (.var 43), (.var 44), (.var 45), (.var 46), (.var 47), (.var 48), (.var 49), (.var 50), (.var 51), (.var 52), (.var 53), (.var 54)]))))))))
def Fs_sMatTimes : List Fun1 := [G_sMatValid, G_l3Inner, G_l5Four]
def F_sMatTimes : Fun1 := ofTree Fs_sMatTimes tr_sMatTimes
def G_sMatTimes : Fun1 := ⟨fun _ => True, fun ins => nttW 4 (matQ (fun k => q3 ins (3 * k)) && matQ (fun k => q3 ins (12 + 3 * k))) (mulM (fun k => q3 ins (3 * k)) (fun k => q3 ins (12 + 3 * k)))⟩
theorem out_sMatTimes : (fun (g : Nat → Int) => evalT' Fs_sMatTimes tr_sMatTimes (ivs g 0 24)) = fun g =>
    mtS (fun k => q3 (ivs g 0 24) (3 * k)) (fun k => q3 (ivs g 0 24) (12 + 3 * k)) := by kernel_rfl
theorem as_sMatTimes (ins : List Value) (ht : TypedL (intTs 24 ++ []) ins) (_ : G_sMatTimes.pre ins) : F_sMatTimes.pre ins ∧ F_sMatTimes.out ins = G_sMatTimes.out ins := by
  obtain ⟨g, r, rfl, h1, _⟩ := ints_lit 24 0 ht
  obtain rfl := ints0 h1
  rw [List.append_nil]
  refine ⟨okT_free (by intro F hF ins; simp only [Fs_sMatTimes, List.mem_cons, List.not_mem_nil, or_false] at hF; rcases hF with rfl | rfl | rfl <;> trivial) _ _ (by kernel_rfl), (evalT_sel (lens := [1]) (Lens.cons (fun _ => rfl) Lens.nil) _ _ (by kernel_rfl)).trans ((congrFun out_sMatTimes g).trans ?_)⟩
  exact (mtS_eq _ _).trans (nttV_eq _ _ _)
def tr_l5One : Tr :=
  (.ret [(.var 0), (.var 1), (.var 2), (.int .i64 0), (.int .i64 0), (.int .i64 1), (.int .i64 0), (.int .i64 0), (.int .i64 1), (.var 3), (.var 4), (.var 5)])
def Fs_l5One : List Fun1 := []
def F_l5One : Fun1 := ofTree Fs_l5One tr_l5One
def tr_sMatAdjoint : Tr :=
  (.evs [.call 0 [(.var 0), (.var 1), (.var 2)] none 4]
  (.evs [.call 0 [(.var 6), (.var 7), (.var 8)] none 4]
  (.evs [.call 0 [(.var 3), (.var 4), (.var 5)] none 4]
  (.evs [.call 0 [(.var 9), (.var 10), (.var 11)] none 4]
  (.evs [.call 1 [(.var 12), (.var 13), (.var 14), (.var 16), (.var 17), (.var 18), (.var 20), (.var 21), (.var 22), (.var 24), (.var 25), (.var 26), (.ite (.ite (.ite (.var 15) (.var 19) (.bool false)) (.var 23) (.bool false)) (.var 27) (.bool false))] none 13]
  (.ret [(.var 28), (.var 29), (.var 30), (.var 31), (.var 32), (.var 33), (.var 34), (.var 35), (.var 36), (.var 37), (.var 38), (.var 39), (.var 40)]))))))
def Fs_sMatAdjoint : List Fun1 := [G_sFracMirror, G_l5Four]
def F_sMatAdjoint : Fun1 := ofTree Fs_sMatAdjoint tr_sMatAdjoint
def rotH (p q : Int) (i : Nat) : Int :=
  if dirOk p q = true then
    (if i = 0 then ((dirC p q).getD zq).1 else if i = 1 then ((dirC p q).getD zq).2.1 else if i = 2 then ((dirC p q).getD zq).2.2
     else if i = 3 then -((dirS p q).getD zq).1 else if i = 4 then 0 else if i = 5 then ((dirS p q).getD zq).2.2
     else if i = 6 then ((dirS p q).getD zq).1 else if i = 7 then ((dirS p q).getD zq).2.1 else if i = 8 then ((dirS p q).getD zq).2.2
     else if i = 9 then ((dirC p q).getD zq).1 else if i = 10 then ((dirC p q).getD zq).2.1 else ((dirC p q).getD zq).2.2)
  else 0
def rotW (p q : Int) : List Value := ivs (rotH p q) 0 12 ++ [.bool (dirOk p q)]
theorem dirS_wrap (p q : Int) : IntKind.i64.wrap (0 - ((dirS p q).getD zq).1) = -((dirS p q).getD zq).1 ∧ IntKind.i64.wrap (0 - ((dirS p q).getD zq).2.1) = 0 := by
  cases h : dirS p q with
  | none => exact ⟨rfl, rfl⟩
  | some v =>
    have hd : dirOk p q = true := by
      unfold dirS at h
      cases hd : dirOk p q with
      | true => rfl
      | false => rw [hd] at h; cases h
    have hl : lowI (2 * p * q) 0 (p * p + q * q) = some v := by
      unfold dirS at h
      rw [if_pos hd] at h
      exact h
    have h0 := low_real hl
    obtain ⟨_, l2, _⟩ := dir_facts hd
    obtain ⟨b1, b2, b3⟩ := valid_bounds (low_valid l2 hl)
    refine ⟨?_, ?_⟩
    · show IntKind.i64.wrap (0 - v.1) = -v.1
      rw [wrap_in (by omega)]; omega
    · show IntKind.i64.wrap (0 - v.2.1) = 0
      rw [h0]; rfl
def adjG (a b c d : Option Q) (i : Nat) : Int :=
  if (a.isSome && b.isSome && c.isSome && d.isSome) = true then
    (if i = 0 then (a.getD zq).1 else if i = 1 then (a.getD zq).2.1 else if i = 2 then (a.getD zq).2.2
     else if i = 3 then (b.getD zq).1 else if i = 4 then (b.getD zq).2.1 else if i = 5 then (b.getD zq).2.2
     else if i = 6 then (c.getD zq).1 else if i = 7 then (c.getD zq).2.1 else if i = 8 then (c.getD zq).2.2
     else if i = 9 then (d.getD zq).1 else if i = 10 then (d.getD zq).2.1 else (d.getD zq).2.2)
  else 0
def adjV (a b c d : Option Q) : List Value := ivs (adjG a b c d) 0 12 ++ [.bool (a.isSome && b.isSome && c.isSome && d.isSome)]
def adjW (ins : List Value) : List Value := adjV (mirQ (q3 ins 0)) (mirQ (q3 ins 6)) (mirQ (q3 ins 3)) (mirQ (q3 ins 9))
def andV (x y : Value) : Value := if toB x = true then y else .bool false
theorem adj_one (a b c d : Option Q) : gotV (((!a.isSome || !b.isSome) || !c.isSome) || !d.isSome) (fr3 a ++ (fr3 b ++ (fr3 c ++ fr3 d))) 0 12 ++ [.bool (!(((!a.isSome || !b.isSome) || !c.isSome) || !d.isSome))] = adjV a b c d := by
  cases a <;> cases b <;> cases c <;> cases d <;> rfl
theorem adj_two (a b c d : Option Q) : gotV (!toB (andV (andV (andV (.bool a.isSome) (.bool b.isSome)) (.bool c.isSome)) (.bool d.isSome))) (fr3 a ++ (fr3 b ++ (fr3 c ++ fr3 d))) 0 12 ++ [.bool (toB (andV (andV (andV (.bool a.isSome) (.bool b.isSome)) (.bool c.isSome)) (.bool d.isSome)))] = adjV a b c d := by
  cases a <;> cases b <;> cases c <;> cases d <;> rfl
def filtI (k : Bool) (a b d : Option Q) : List Value := gotV (((((false || !k) || !a.isSome) || !b.isSome) || !b.isSome) || !d.isSome) (fr3 a ++ (fr3 b ++ (fr3 b ++ fr3 d))) 0 12 ++ [.bool (!(((((false || !k) || !a.isSome) || !b.isSome) || !b.isSome) || !d.isSome))]
def filtS (k : Bool) (a b d : Option Q) : List Value := if toB (.bool (!k)) = true then zeros 12 ++ [.bool false] else gotV (!toB (andV (andV (.bool a.isSome) (.bool b.isSome)) (.bool d.isSome))) (fr3 a ++ (fr3 b ++ (fr3 b ++ fr3 d))) 0 12 ++ [.bool (toB (andV (andV (.bool a.isSome) (.bool b.isSome)) (.bool d.isSome)))]
def filtG (k : Bool) (a b d : Option Q) (i : Nat) : Int :=
  if (k && (a.isSome && (b.isSome && d.isSome))) = true then
    (if i = 0 then (a.getD zq).1 else if i = 1 then (a.getD zq).2.1 else if i = 2 then (a.getD zq).2.2
     else if i = 3 then (b.getD zq).1 else if i = 4 then (b.getD zq).2.1 else if i = 5 then (b.getD zq).2.2
     else if i = 6 then (b.getD zq).1 else if i = 7 then (b.getD zq).2.1 else if i = 8 then (b.getD zq).2.2
     else if i = 9 then (d.getD zq).1 else if i = 10 then (d.getD zq).2.1 else (d.getD zq).2.2)
  else 0
def filtV (k : Bool) (a b d : Option Q) : List Value := ivs (filtG k a b d) 0 12 ++ [.bool (k && (a.isSome && (b.isSome && d.isSome)))]
theorem filt_one (k : Bool) (a b d : Option Q) : filtI k a b d = filtV k a b d := by
  cases k <;> cases a <;> cases b <;> cases d <;> rfl
theorem filt_two (k : Bool) (a b d : Option Q) : filtS k a b d = filtV k a b d := by
  cases k <;> cases a <;> cases b <;> cases d <;> rfl
def filtW (p q : Int) : List Value := filtV (dirOk p q) (timesQ ((dirC p q).getD zq) ((dirC p q).getD zq)) (timesQ ((dirC p q).getD zq) ((dirS p q).getD zq)) (timesQ ((dirS p q).getD zq) ((dirS p q).getD zq))
def turnW (k : Int) : List Value := [if toB (Value.bool (k == 0)) = true then .int .i64 1 else if toB (Value.bool (k == 1)) = true then .int .i64 0 else if toB (Value.bool (k == 2)) = true then .int .i64 (-1) else .int .i64 0,
  if toB (Value.bool (k == 0)) = true then .int .i64 0 else if toB (Value.bool (k == 1)) = true then .int .i64 1 else if toB (Value.bool (k == 2)) = true then .int .i64 0 else .int .i64 (-1),
  if toB (Value.bool (k == 0)) = true then .int .i64 1 else if toB (Value.bool (k == 1)) = true then .int .i64 1 else if toB (Value.bool (k == 2)) = true then .int .i64 1 else .int .i64 1]
def diagW (k : Int) : List Value := [.int .i64 1, .int .i64 0, .int .i64 1, .int .i64 0, .int .i64 0, .int .i64 1, .int .i64 0, .int .i64 0, .int .i64 1] ++ turnW k
def mulW (ins : List Value) : List Value := nttW 4 (matQ (fun k => q3 ins (3 * k)) && matQ (fun k => q3 ins (12 + 3 * k))) (mulM (fun k => q3 ins (3 * k)) (fun k => q3 ins (12 + 3 * k)))
def plA (g : Nat → Int) (k : Int) : List Value := mulW (ivs g 0 12 ++ diagW k)
def plM (g : Nat → Int) (k : Int) : List Value := mulW ((plA g k).take 12 ++ (adjW (ivs g 0 12)).take 12)
def plateV (p q k : Int) : List Value :=
  if (dirOk p q && (inRg k 0 3 && (b0 (plA (rotH p q) k) 12 && b0 (plM (rotH p q) k) 12))) = true then (plM (rotH p q) k).take 12 ++ [.bool true] else zeros 12 ++ [.bool false]
theorem plate_lit (p q k : Int) : ∃ (g : Nat → Int) (b : Bool), plateV p q k = ivs g 0 12 ++ [.bool b] := by
  unfold plateV
  split
  · exact ⟨_, true, rfl⟩
  · exact ⟨fun _ => 0, false, rfl⟩
def G_sMatAdjoint : Fun1 := ⟨fun _ => True, adjW⟩
theorem adj_sI (g : Nat → Int) : F_sMatAdjoint.out (ivs g 0 12) = gotV (!toB (andV (andV (andV (.bool (mirQ (q3 (ivs g 0 12) 0)).isSome) (.bool (mirQ (q3 (ivs g 0 12) 6)).isSome)) (.bool (mirQ (q3 (ivs g 0 12) 3)).isSome)) (.bool (mirQ (q3 (ivs g 0 12) 9)).isSome))) (fr3 (mirQ (q3 (ivs g 0 12) 0)) ++ (fr3 (mirQ (q3 (ivs g 0 12) 6)) ++ (fr3 (mirQ (q3 (ivs g 0 12) 3)) ++ fr3 (mirQ (q3 (ivs g 0 12) 9))))) 0 12 ++ [.bool (toB (andV (andV (andV (.bool (mirQ (q3 (ivs g 0 12) 0)).isSome) (.bool (mirQ (q3 (ivs g 0 12) 6)).isSome)) (.bool (mirQ (q3 (ivs g 0 12) 3)).isSome)) (.bool (mirQ (q3 (ivs g 0 12) 9)).isSome)))] := by
  kernel_rfl
theorem as_sMatAdjoint (ins : List Value) (ht : TypedL (intTs 12 ++ []) ins) (_ : G_sMatAdjoint.pre ins) : F_sMatAdjoint.pre ins ∧ F_sMatAdjoint.out ins = G_sMatAdjoint.out ins := by
  obtain ⟨g, r, rfl, h1, _⟩ := ints_lit 12 0 ht
  obtain rfl := ints0 h1
  rw [List.append_nil]
  exact ⟨okT_free (by intro F hF ins; simp only [Fs_sMatAdjoint, List.mem_cons, List.not_mem_nil, or_false] at hF; rcases hF with rfl | rfl <;> trivial) _ _ (by kernel_rfl), (adj_sI g).trans (adj_two _ _ _ _)⟩
def tr_sMatRotator : Tr :=
  (.evs [.call 0 [(.var 0), (.var 1)] none 7]
  (.evs [.call 1 [(.var 2), (.var 3), (.var 4), (.ar .sub .i64 (.int .i64 0) (.var 5)), (.int .i64 0), (.var 7), (.var 5), (.var 6), (.var 7), (.var 2), (.var 3), (.var 4), (.var 8)] none 13]
  (.ret [(.var 9), (.var 10), (.var 11), (.var 12), (.var 13), (.var 14), (.var 15), (.var 16), (.var 17), (.var 18), (.var 19), (.var 20), (.var 21)])))
def Fs_sMatRotator : List Fun1 := [G_l5Direction, G_l5Four]
def F_sMatRotator : Fun1 := ofTree Fs_sMatRotator tr_sMatRotator
def G_sMatRotator : Fun1 := ⟨fun _ => True, fun ins => rotW (i0 ins 0) (i0 ins 1)⟩
theorem as_sMatRotator (ins : List Value) (ht : TypedL [.int .i64, .int .i64] ins) (_ : G_sMatRotator.pre ins) : F_sMatRotator.pre ins ∧ F_sMatRotator.out ins = G_sMatRotator.out ins := by
  obtain ⟨p, q, rfl, wp, wq⟩ := ints2 ht
  obtain ⟨w1, w2⟩ := dirS_wrap p q
  rw [Int.zero_sub] at w1 w2
  simp only [F_sMatRotator, G_sMatRotator, tr_sMatRotator, Fs_sMatRotator, G_l5Direction, G_l5Four, gotV, dirV, fr3, arI, ofTree, okT, okE, evalT, evalE, evsIn, ev, callF, preF, hasF, needs, i0, b0, toI_int, toB_bool, List.getD_cons_zero, List.getD_cons_succ, List.cons_append, List.nil_append, List.replicate, if_true, if_false, Bool.false_eq_true, and_true, true_and, implies_true, forall_const, false_implies, cmpI, Bool.not_true, Bool.not_false, Bool.true_and, Bool.false_and, Bool.and_true, Bool.and_false, reduceIte, List.append_nil, reduceCtorEq]
  cases h : dirOk p q
  · simp [h, rotW, rotH, ivs]
  · simp [h, rotW, rotH, ivs, w1, w2]
def tr_l5PhaseK : Tr :=
  (.evs [.need [(.cmp .leq (.int .i64 0) (.var 0)), (.cmp .lss (.var 0) (.int .i64 4))]]
  (.ret [(.ite (.cmp .eql (.var 0) (.int .i64 0)) (.int .i64 1) (.ite (.cmp .eql (.var 0) (.int .i64 1)) (.int .i64 0) (.ite (.cmp .eql (.var 0) (.int .i64 2)) (.int .i64 (-1)) (.int .i64 0)))), (.ite (.cmp .eql (.var 0) (.int .i64 0)) (.int .i64 0) (.ite (.cmp .eql (.var 0) (.int .i64 1)) (.int .i64 1) (.ite (.cmp .eql (.var 0) (.int .i64 2)) (.int .i64 0) (.int .i64 (-1))))), (.ite (.cmp .eql (.var 0) (.int .i64 0)) (.int .i64 1) (.ite (.cmp .eql (.var 0) (.int .i64 1)) (.int .i64 1) (.ite (.cmp .eql (.var 0) (.int .i64 2)) (.int .i64 1) (.int .i64 1))))]))
def Fs_l5PhaseK : List Fun1 := []
def F_l5PhaseK : Fun1 := ofTree Fs_l5PhaseK tr_l5PhaseK
def tr_sMatPlate : Tr :=
  (.evs [.call 0 [(.var 0), (.var 1)] none 13]
  (.evs [.call 1 [(.var 2), (.int .i64 0), (.int .i64 3)] (some (.not (.not (.var 15)))) 1]
  (.ite (.ite (.not (.var 15)) (.bool true) (.not (.var 16)))
  (.ret [(.int .i64 0), (.int .i64 0), (.int .i64 0), (.int .i64 0), (.int .i64 0), (.int .i64 0), (.int .i64 0), (.int .i64 0), (.int .i64 0), (.int .i64 0), (.int .i64 0), (.int .i64 0), (.bool false)])
  (.evs [.call 2 [(.var 3), (.var 4), (.var 5), (.var 6), (.var 7), (.var 8), (.var 9), (.var 10), (.var 11), (.var 12), (.var 13), (.var 14)] none 13]
   (.evs [.call 3 [(.int .i64 0)] none 3,
     .call 3 [(.var 2)] none 3,
     .call 4 [(.var 30), (.var 31), (.var 32), (.var 33), (.var 34), (.var 35)] none 12,
     .call 5 [(.var 3), (.var 4), (.var 5), (.var 6), (.var 7), (.var 8), (.var 9), (.var 10), (.var 11), (.var 12), (.var 13), (.var 14), (.var 36), (.var 37), (.var 38), (.var 39), (.var 40), (.var 41), (.var 42), (.var 43), (.var 44), (.var 45), (.var 46), (.var 47)] none 13]
   (.evs [.call 5 [(.var 48), (.var 49), (.var 50), (.var 51), (.var 52), (.var 53), (.var 54), (.var 55), (.var 56), (.var 57), (.var 58), (.var 59), (.var 17), (.var 18), (.var 19), (.var 20), (.var 21), (.var 22), (.var 23), (.var 24), (.var 25), (.var 26), (.var 27), (.var 28)] none 13]
   (.ite (.ite (.not (.var 60)) (.bool true) (.not (.var 73)))
   (.ret [(.int .i64 0), (.int .i64 0), (.int .i64 0), (.int .i64 0), (.int .i64 0), (.int .i64 0), (.int .i64 0), (.int .i64 0), (.int .i64 0), (.int .i64 0), (.int .i64 0), (.int .i64 0), (.bool false)])
   (.ret [(.var 61), (.var 62), (.var 63), (.var 64), (.var 65), (.var 66), (.var 67), (.var 68), (.var 69), (.var 70), (.var 71), (.var 72), (.bool true)]))))))))
def Fs_sMatPlate : List Fun1 := [G_sMatRotator, G_l6In, G_sMatAdjoint, F_l5PhaseK, F_l5One, G_sMatTimes]
theorem ite_t {P : Program} {specs : List Spec} {c : Ex} {a b : Tr} {env : List Value} {N : List (List Value → Prop)} {K : List Value → Prop} (h : ev env c = .bool true) (ha : sat P specs a env N K) : sat P specs (.ite c a b) env N K :=
  ⟨fun _ => ha, (fun h2 => by rw [h] at h2; cases h2)⟩
theorem ite_f {P : Program} {specs : List Spec} {c : Ex} {a b : Tr} {env : List Value} {N : List (List Value → Prop)} {K : List Value → Prop} (h : ev env c = .bool false) (hb : sat P specs b env N K) : sat P specs (.ite c a b) env N K :=
  ⟨(fun h2 => by rw [h] at h2; cases h2), fun _ => hb⟩
theorem beq_f {k m : UInt8} (h : k ≠ m) : Value.bool ((k.toNat : Int) == (m.toNat : Int)) = .bool false := by
  congr 1
  rw [beq_eq_false_iff_ne]
  intro e
  exact h (UInt8.toNat_inj.1 (by omega))
theorem two_list {ns : List Int} (h : ns.length = 2) : ∃ p q, ns = [p, q] := by
  match ns, h with
  | [p, q], _ => exact ⟨p, q, rfl⟩
theorem three_list {ns : List Int} (h : ns.length = 3) : ∃ p q r, ns = [p, q, r] := by
  match ns, h with
  | [p, q, r], _ => exact ⟨p, q, r, rfl⟩
theorem ok_len2 {k : UInt8} {ns : List Int} (hk : k = 114 ∨ k = 102 ∨ k = 97 ∨ k = 100) (h : ns.length ≠ 2) : okPiece k ns = false := by
  match ns, h with
  | [], _ => rcases hk with rfl | rfl | rfl | rfl <;> rfl
  | [_], _ => rcases hk with rfl | rfl | rfl | rfl <;> rfl
  | [_, _], h => exact absurd rfl h
  | _ :: _ :: _ :: _, _ => rcases hk with rfl | rfl | rfl | rfl <;> rfl
theorem ok_len3 {ns : List Int} (h : ns.length ≠ 3) : okPiece 119 ns = false := by
  match ns, h with
  | [], _ => rfl
  | [_], _ => rfl
  | [_, _], _ => rfl
  | [_, _, _], h => exact absurd rfl h
  | _ :: _ :: _ :: _ :: _, _ => rfl
theorem ok_other {k : UInt8} {ns : List Int} (h1 : k ≠ 114) (h2 : k ≠ 102) (h3 : k ≠ 119) (h4 : k ≠ 97) (h5 : k ≠ 100) : okPiece k ns = false := by
  unfold okPiece
  rw [if_neg (by simp [h1, h2]), if_neg h3, if_neg (by simp [h4, h5])]
theorem k_cases (k : UInt8) : k = 114 ∨ k = 102 ∨ k = 119 ∨ k = 97 ∨ k = 100 ∨ (k ≠ 114 ∧ k ≠ 102 ∧ k ≠ 119 ∧ k ≠ 97 ∧ k ≠ 100) := by
  by_cases h1 : k = 114
  · exact .inl h1
  by_cases h2 : k = 102
  · exact .inr (.inl h2)
  by_cases h3 : k = 119
  · exact .inr (.inr (.inl h3))
  by_cases h4 : k = 97
  · exact .inr (.inr (.inr (.inl h4)))
  by_cases h5 : k = 100
  · exact .inr (.inr (.inr (.inr (.inl h5))))
  exact .inr (.inr (.inr (.inr (.inr ⟨h1, h2, h3, h4, h5⟩))))
theorem phase_pre {k : Int} (h0 : 0 ≤ k) (h1 : k ≤ 3) : F_l5PhaseK.pre [.int .i64 k] := by
  have n1 : Value.bool (decide ((0 : Int) ≤ k)) = .bool true := bt h0
  have n2 : Value.bool (decide (k < (4 : Int))) = .bool true := bt (by omega)
  exact ⟨⟨⟨n1, n2, trivial⟩, trivial⟩, trivial⟩
def SP_sMatPlate : Spec := fun ins K => ∃ p q k, ins = [.int .i64 p, .int .i64 q, .int .i64 k] ∧ K (plateV p q k)
set_option maxHeartbeats 2000000 in
theorem sat_sMatPlate (P : Program) (ins : List Value) (K : List Value → Prop) (_ : TypedL [.int .i64, .int .i64, .int .i64] ins) (h : SP_sMatPlate ins K) : sat P (specsOf Fs_sMatPlate) tr_sMatPlate ins [] K := by
  obtain ⟨p, q, k, rfl, hK⟩ := h
  unfold plateV at hK
  refine evs_step (call_step rfl ⟨trivial, evs_nil ?_⟩)
  show sat P _ _ ([.int .i64 p, .int .i64 q, .int .i64 k] ++ (ivs (rotH p q) 0 12 ++ [.bool (dirOk p q)])) [] K
  generalize rotH p q = g at *
  cases hd : dirOk p q with
  | false =>
    rw [hd] at hK
    exact evs_step (callg_step rfl (fun h => by cases h) (fun _ => evs_nil (ite_t rfl hK)))
  | true =>
    refine evs_step (callg_step rfl (fun _ => ⟨trivial, evs_nil ?_⟩) (fun h => by cases h))
    show sat P _ _ ([.int .i64 p, .int .i64 q, .int .i64 k] ++ (ivs g 0 12 ++ [.bool true]) ++ [.bool (inRg k 0 3)]) [] K
    rw [hd, Bool.true_and] at hK
    cases hk : inRg k 0 3 with
    | false =>
      rw [hk] at hK
      exact ite_t rfl hK
    | true =>
      rw [hk, Bool.true_and] at hK
      have hk2 : 0 ≤ k ∧ k ≤ 3 := by simpa [inRg] using hk
      refine ite_f rfl (evs_step (call_step rfl ⟨trivial, evs_nil ?_⟩))
      refine evs_step (call_step rfl ⟨phase_pre (k := 0) (by omega) (by omega), call_step rfl ⟨phase_pre hk2.1 hk2.2, call_step rfl ⟨trivial, call_step rfl ⟨trivial, evs_nil ?_⟩⟩⟩⟩)
      refine evs_step (call_step rfl ⟨trivial, evs_nil ?_⟩)
      refine ⟨fun h => ?_, fun h => ?_⟩
      · have h' : (if toB (.bool (!(b0 (plA g k) 12))) = true then Value.bool true else .bool (!(b0 (plM g k) 12))) = .bool true := Eq.trans (by kernel_rfl) h
        have hf : (b0 (plA g k) 12 && b0 (plM g k) 12) = false := by
          generalize b0 (plA g k) 12 = x at h'
          generalize b0 (plM g k) 12 = y at h'
          cases x <;> cases y <;> first | rfl | cases h'
        rw [hf] at hK
        exact hK
      · have h' : (if toB (.bool (!(b0 (plA g k) 12))) = true then Value.bool true else .bool (!(b0 (plM g k) 12))) = .bool false := Eq.trans (by kernel_rfl) h
        have hf : (b0 (plA g k) 12 && b0 (plM g k) 12) = true := by
          generalize b0 (plA g k) 12 = x at h'
          generalize b0 (plM g k) 12 = y at h'
          cases x <;> cases y <;> first | rfl | cases h'
        rw [hf] at hK
        have hK : K ((plM g k).take 12 ++ [.bool true]) := hK
        refine Eq.mp (congrArg K ?_) hK
        kernel_rfl
def tr_sMatFilter : Tr :=
  (.evs [.call 0 [(.var 0), (.var 1)] none 7]
  (.ite (.not (.var 8))
  (.ret [(.int .i64 0), (.int .i64 0), (.int .i64 0), (.int .i64 0), (.int .i64 0), (.int .i64 0), (.int .i64 0), (.int .i64 0), (.int .i64 0), (.int .i64 0), (.int .i64 0), (.int .i64 0), (.bool false)])
  (.evs [.call 1 [(.var 2), (.var 3), (.var 4), (.var 2), (.var 3), (.var 4)] none 4]
   (.evs [.call 1 [(.var 2), (.var 3), (.var 4), (.var 5), (.var 6), (.var 7)] none 4]
   (.evs [.call 1 [(.var 5), (.var 6), (.var 7), (.var 5), (.var 6), (.var 7)] none 4]
   (.evs [.call 2 [(.var 9), (.var 10), (.var 11), (.var 13), (.var 14), (.var 15), (.var 13), (.var 14), (.var 15), (.var 17), (.var 18), (.var 19), (.ite (.ite (.var 12) (.var 16) (.bool false)) (.var 20) (.bool false))] none 13]
   (.ret [(.var 21), (.var 22), (.var 23), (.var 24), (.var 25), (.var 26), (.var 27), (.var 28), (.var 29), (.var 30), (.var 31), (.var 32), (.var 33)])))))))
def Fs_sMatFilter : List Fun1 := [G_l5Direction, G_sFracTimes, G_l5Four]
def F_sMatFilter : Fun1 := ofTree Fs_sMatFilter tr_sMatFilter
def G_sMatFilter : Fun1 := ⟨fun _ => True, fun ins => filtW (i0 ins 0) (i0 ins 1)⟩
theorem filt_sI (p q : Int) : F_sMatFilter.out [.int .i64 p, .int .i64 q] = filtS (dirOk p q) (timesQ ((dirC p q).getD zq) ((dirC p q).getD zq)) (timesQ ((dirC p q).getD zq) ((dirS p q).getD zq)) (timesQ ((dirS p q).getD zq) ((dirS p q).getD zq)) := by kernel_rfl
theorem as_sMatFilter (ins : List Value) (ht : TypedL [.int .i64, .int .i64] ins) (_ : G_sMatFilter.pre ins) : F_sMatFilter.pre ins ∧ F_sMatFilter.out ins = G_sMatFilter.out ins := by
  obtain ⟨p, q, rfl, wp, wq⟩ := ints2 ht
  exact ⟨okT_free (by intro F hF ins; simp only [Fs_sMatFilter, List.mem_cons, List.not_mem_nil, or_false] at hF; rcases hF with rfl | rfl | rfl <;> trivial) _ _ (by kernel_rfl), (filt_sI p q).trans (filt_two _ _ _ _)⟩
def tr_l6tDiag : Tr :=
  (.evs [.need [(.bool true)]]
  (.evs [.need [(.bool true)]]
  (.evs [.need [(.bool true)]]
  (.evs [.need [(.bool true)]]
  (.evs [.need [(.bool true)]]
  (.evs [.need [(.bool true)]]
  (.evs [.need [(.bool true)]]
  (.evs [.need [(.bool true)]]
  (.evs [.need [(.bool true)]]
  (.evs [.need [(.bool true)]]
  (.evs [.need [(.bool true)]]
  (.evs [.need [(.bool true)]]
  (.evs [.need [(.bool true)]]
  (.evs [.need [(.bool true)]]
  (.evs [.need [(.bool true)]]
  (.evs [.need [(.bool true)]]
  (.ret [(.int .i64 1), (.int .i64 0), (.int .i64 1), (.int .i64 0), (.int .i64 0), (.int .i64 1), (.int .i64 0), (.int .i64 0), (.int .i64 1), (.int .i64 0), (.int .i64 0), (.int .i64 1), (.int .i64 0), (.int .i64 0), (.int .i64 1), (.var 0), (.var 1), (.var 2), (.int .i64 0), (.int .i64 0), (.int .i64 1), (.int .i64 0), (.int .i64 0), (.int .i64 1), (.int .i64 0), (.int .i64 0), (.int .i64 1), (.int .i64 0), (.int .i64 0), (.int .i64 1), (.var 0), (.var 1), (.var 2), (.int .i64 0), (.int .i64 0), (.int .i64 1), (.int .i64 0), (.int .i64 0), (.int .i64 1), (.int .i64 0), (.int .i64 0), (.int .i64 1), (.int .i64 0), (.int .i64 0), (.int .i64 1), (.var 0), (.var 1), (.var 2)])))))))))))))))))
def Fs_l6tDiag : List Fun1 := []
def F_l6tDiag : Fun1 := ofTree Fs_l6tDiag tr_l6tDiag
def tr_l6tUnit : Tr :=
  (.evs [.call 0 [(.int .i64 1), (.int .i64 0), (.int .i64 1)] none 48]
  (.ret [(.var 0), (.var 1), (.var 2), (.var 3), (.var 4), (.var 5), (.var 6), (.var 7), (.var 8), (.var 9), (.var 10), (.var 11), (.var 12), (.var 13), (.var 14), (.var 15), (.var 16), (.var 17), (.var 18), (.var 19), (.var 20), (.var 21), (.var 22), (.var 23), (.var 24), (.var 25), (.var 26), (.var 27), (.var 28), (.var 29), (.var 30), (.var 31), (.var 32), (.var 33), (.var 34), (.var 35), (.var 36), (.var 37), (.var 38), (.var 39), (.var 40), (.var 41), (.var 42), (.var 43), (.var 44), (.var 45), (.var 46), (.var 47)]))
def Fs_l6tUnit : List Fun1 := [F_l6tDiag]
def F_l6tUnit : Fun1 := ofTree Fs_l6tUnit tr_l6tUnit
def tr_iDiag : Tr :=
  (.ret [(.var 0), (.var 1), (.var 2), (.int .i64 0), (.int .i64 0), (.int .i64 1), (.int .i64 0), (.int .i64 0), (.int .i64 1), (.int .i64 0), (.int .i64 0), (.int .i64 1), (.int .i64 0), (.int .i64 0), (.int .i64 1), (.var 3), (.var 4), (.var 5), (.int .i64 0), (.int .i64 0), (.int .i64 1), (.int .i64 0), (.int .i64 0), (.int .i64 1), (.int .i64 0), (.int .i64 0), (.int .i64 1), (.int .i64 0), (.int .i64 0), (.int .i64 1), (.var 3), (.var 4), (.var 5), (.int .i64 0), (.int .i64 0), (.int .i64 1), (.int .i64 0), (.int .i64 0), (.int .i64 1), (.int .i64 0), (.int .i64 0), (.int .i64 1), (.int .i64 0), (.int .i64 0), (.int .i64 1), (.var 3), (.var 4), (.var 5)])
def Fs_iDiag : List Fun1 := []
def F_iDiag : Fun1 := ofTree Fs_iDiag tr_iDiag
def tr_diagonal : Tr :=
  (.ret [(.int .i64 1), (.int .i64 0), (.int .i64 1), (.int .i64 0), (.int .i64 0), (.int .i64 1), (.int .i64 0), (.int .i64 0), (.int .i64 1), (.int .i64 0), (.int .i64 0), (.int .i64 1), (.int .i64 0), (.int .i64 0), (.int .i64 1), (.var 0), (.var 1), (.var 2), (.int .i64 0), (.int .i64 0), (.int .i64 1), (.int .i64 0), (.int .i64 0), (.int .i64 1), (.int .i64 0), (.int .i64 0), (.int .i64 1), (.int .i64 0), (.int .i64 0), (.int .i64 1), (.var 0), (.var 1), (.var 2), (.int .i64 0), (.int .i64 0), (.int .i64 1), (.int .i64 0), (.int .i64 0), (.int .i64 1), (.int .i64 0), (.int .i64 0), (.int .i64 1), (.int .i64 0), (.int .i64 0), (.int .i64 1), (.var 0), (.var 1), (.var 2)])
def Fs_diagonal : List Fun1 := []
def F_diagonal : Fun1 := ofTree Fs_diagonal tr_diagonal
def tr_iTableFade : Tr :=
  (.evs [.call 0 [(.var 0), (.var 1), (.var 2)] none 1]
  (.ite (.not (.var 3))
  (.ret [(.int .i64 0), (.int .i64 0), (.int .i64 0), (.int .i64 0), (.int .i64 0), (.int .i64 0), (.int .i64 0), (.int .i64 0), (.int .i64 0), (.int .i64 0), (.int .i64 0), (.int .i64 0), (.int .i64 0), (.int .i64 0), (.int .i64 0), (.int .i64 0), (.int .i64 0), (.int .i64 0), (.int .i64 0), (.int .i64 0), (.int .i64 0), (.int .i64 0), (.int .i64 0), (.int .i64 0), (.int .i64 0), (.int .i64 0), (.int .i64 0), (.int .i64 0), (.int .i64 0), (.int .i64 0), (.int .i64 0), (.int .i64 0), (.int .i64 0), (.int .i64 0), (.int .i64 0), (.int .i64 0), (.int .i64 0), (.int .i64 0), (.int .i64 0), (.int .i64 0), (.int .i64 0), (.int .i64 0), (.int .i64 0), (.int .i64 0), (.int .i64 0), (.int .i64 0), (.int .i64 0), (.int .i64 0), (.bool false)])
  (.evs [.call 1 [(.var 0), (.var 1), (.var 2)] none 48]
   (.ret [(.var 4), (.var 5), (.var 6), (.var 7), (.var 8), (.var 9), (.var 10), (.var 11), (.var 12), (.var 13), (.var 14), (.var 15), (.var 16), (.var 17), (.var 18), (.var 19), (.var 20), (.var 21), (.var 22), (.var 23), (.var 24), (.var 25), (.var 26), (.var 27), (.var 28), (.var 29), (.var 30), (.var 31), (.var 32), (.var 33), (.var 34), (.var 35), (.var 36), (.var 37), (.var 38), (.var 39), (.var 40), (.var 41), (.var 42), (.var 43), (.var 44), (.var 45), (.var 46), (.var 47), (.var 48), (.var 49), (.var 50), (.var 51), (.bool true)]))))
def Fs_iTableFade : List Fun1 := [G_realOk, F_diagonal]
def F_iTableFade : Fun1 := ofTree Fs_iTableFade tr_iTableFade
def dgF (c : Q) (k : Nat) : Q := if k = 0 then oneQ else if k % 5 = 0 then c else nil1
def fdD (c : Q) (k : Nat) : Option Q := some (dgF c k)
def G_iTableFade : Fun1 := ⟨fun _ => True, fun ins => nttW 16 (realQ (q3 ins 0)) (fdD (q3 ins 0))⟩
theorem out_iTableFade : (fun (g : Nat → Int) => F_iTableFade.out (ivs g 0 3)) = fun g => if toB (.bool (!realQ (tri g 0))) = true then zeros 48 ++ [.bool false] else F_diagonal.out (ivs g 0 3) ++ [.bool true] := by kernel_rfl
theorem fade_yes : (fun (g : Nat → Int) => F_diagonal.out (ivs g 0 3) ++ [.bool true]) = fun g => nttW 16 true (fdD (tri g 0)) := by kernel_rfl
theorem fade_no : (fun (g : Nat → Int) => zeros 48 ++ [.bool false]) = fun g => nttW 16 false (fdD (tri g 0)) := by kernel_rfl
theorem as_iTableFade (ins : List Value) (ht : TypedL (intTs 3 ++ []) ins) (_ : G_iTableFade.pre ins) : F_iTableFade.pre ins ∧ F_iTableFade.out ins = G_iTableFade.out ins := by
  obtain ⟨g, r, rfl, h1, _⟩ := ints_lit 3 0 ht
  obtain rfl := ints0 h1
  rw [List.append_nil]
  refine ⟨okT_free (by intro F hF ins; simp only [Fs_iTableFade, List.mem_cons, List.not_mem_nil, or_false] at hF; rcases hF with rfl | rfl; · trivial
                       · exact okT_free (fun F hF => by cases hF) _ _ (by kernel_rfl)) _ _ (by kernel_rfl), (congrFun out_iTableFade g).trans ?_⟩
  show _ = nttW 16 (realQ (tri g 0)) (fdD (tri g 0))
  cases realQ (tri g 0)
  · exact congrFun fade_no g
  · exact congrFun fade_yes g
def tr_sTableFade : Tr :=
  (.evs [.call 0 [(.var 0), (.var 1), (.var 2)] none 1]
  (.ite (.ite (.not (.var 3)) (.bool true) (.cmp .neq (.var 1) (.int .i64 0)))
  (.ret [(.int .i64 0), (.int .i64 0), (.int .i64 0), (.int .i64 0), (.int .i64 0), (.int .i64 0), (.int .i64 0), (.int .i64 0), (.int .i64 0), (.int .i64 0), (.int .i64 0), (.int .i64 0), (.int .i64 0), (.int .i64 0), (.int .i64 0), (.int .i64 0), (.int .i64 0), (.int .i64 0), (.int .i64 0), (.int .i64 0), (.int .i64 0), (.int .i64 0), (.int .i64 0), (.int .i64 0), (.int .i64 0), (.int .i64 0), (.int .i64 0), (.int .i64 0), (.int .i64 0), (.int .i64 0), (.int .i64 0), (.int .i64 0), (.int .i64 0), (.int .i64 0), (.int .i64 0), (.int .i64 0), (.int .i64 0), (.int .i64 0), (.int .i64 0), (.int .i64 0), (.int .i64 0), (.int .i64 0), (.int .i64 0), (.int .i64 0), (.int .i64 0), (.int .i64 0), (.int .i64 0), (.int .i64 0), (.bool false)])
  (.evs [.call 1 [(.var 0), (.var 1), (.var 2)] none 48]
   (.ret [(.var 4), (.var 5), (.var 6), (.var 7), (.var 8), (.var 9), (.var 10), (.var 11), (.var 12), (.var 13), (.var 14), (.var 15), (.var 16), (.var 17), (.var 18), (.var 19), (.var 20), (.var 21), (.var 22), (.var 23), (.var 24), (.var 25), (.var 26), (.var 27), (.var 28), (.var 29), (.var 30), (.var 31), (.var 32), (.var 33), (.var 34), (.var 35), (.var 36), (.var 37), (.var 38), (.var 39), (.var 40), (.var 41), (.var 42), (.var 43), (.var 44), (.var 45), (.var 46), (.var 47), (.var 48), (.var 49), (.var 50), (.var 51), (.bool true)]))))
def Fs_sTableFade : List Fun1 := [G_sFracValid, F_l6tDiag]
def F_sTableFade : Fun1 := ofTree Fs_sTableFade tr_sTableFade
def G_sTableFade : Fun1 := ⟨fun _ => True, fun ins => nttW 16 (realQ (q3 ins 0)) (fdD (q3 ins 0))⟩
theorem out_sTableFade : (fun (g : Nat → Int) => F_sTableFade.out (ivs g 0 3)) = fun g => if toB (if toB (.bool (!validQ (tri g 0))) = true then .bool true else .bool (!((tri g 0).2.1 == 0))) = true then zeros 48 ++ [.bool false] else F_l6tDiag.out (ivs g 0 3) ++ [.bool true] := by kernel_rfl
theorem sfade_yes : (fun (g : Nat → Int) => F_l6tDiag.out (ivs g 0 3) ++ [.bool true]) = fun g => nttW 16 true (fdD (tri g 0)) := by kernel_rfl
theorem sfade_no : (fun (g : Nat → Int) => zeros 48 ++ [.bool false]) = fun g => nttW 16 false (fdD (tri g 0)) := by kernel_rfl
theorem as_sTableFade (ins : List Value) (ht : TypedL (intTs 3 ++ []) ins) (_ : G_sTableFade.pre ins) : F_sTableFade.pre ins ∧ F_sTableFade.out ins = G_sTableFade.out ins := by
  obtain ⟨g, r, rfl, h1, _⟩ := ints_lit 3 0 ht
  obtain rfl := ints0 h1
  rw [List.append_nil]
  refine ⟨okT_free (by intro F hF ins; simp only [Fs_sTableFade, List.mem_cons, List.not_mem_nil, or_false] at hF; rcases hF with rfl | rfl; · trivial
                       · exact okT_free (fun F hF => by cases hF) _ _ (by kernel_rfl)) _ _ (by kernel_rfl), (congrFun out_sTableFade g).trans ?_⟩
  show _ = nttW 16 (realQ (tri g 0)) (fdD (tri g 0))
  unfold realQ
  cases validQ (tri g 0)
  · exact congrFun sfade_no g
  · cases (tri g 0).2.1 == 0
    · exact congrFun sfade_no g
    · exact congrFun sfade_yes g
def SP_Split : Spec := SP_split
def SP_plainNumber : Spec := SP_num num
def SP_l6Dec : Spec := SP_itoa
def tr_l7Cut : Tr :=
  (.evs [.app (.val (.agg #[])) 1 (.cells [])]
  (.lp 0 [(.int .i64 0), (.int .i64 0), (.var 2), (.val (.agg #[]))] [.int .i64, .int .i64, .sl, .rowC [.str]]
  (.ite (.cmp .leq (.var 4) (.len (.var 0)))
   (.evs [.need [(.ite (.not (.cmp .eql (.var 4) (.len (.var 0)))) (.cmp .leq (.int .i64 0) (.var 4)) (.bool true)), (.ite (.not (.cmp .eql (.var 4) (.len (.var 0)))) (.cmp .lss (.var 4) (.len (.var 0))) (.bool true))]]
    (.ite (.ite (.cmp .eql (.var 4) (.len (.var 0))) (.bool true) (.cmp .eql (.sidx (.var 0) (.var 4)) (.var 1)))
    (.evs [.need [(.cmp .leq (.int .i64 0) (.var 5)), (.cmp .leq (.var 5) (.var 4)), (.cmp .leq (.var 4) (.len (.var 0)))],
       .app (.var 7) 1 (.cells [(.ssub (.var 0) (.var 5) (.var 4))])]
     (.next 0 [(.ar .add .i64 (.var 4) (.int .i64 1)), (.ar .add .i64 (.var 4) (.int .i64 1)), (.var 8), (.var 9)]))
    (.next 0 [(.ar .add .i64 (.var 4) (.int .i64 1)), (.var 5), (.var 6), (.var 7)])))
   (.ret [(.var 6), (.var 7)]))))
def Fs_l7Cut : List Fun1 := []
def SP_l7Cut : Spec := SP_cut
theorem cut_last {c : UInt8} {s : List UInt8} {fr i : Nat} (h : i = s.length) : cutGo c ((s.drop fr).take (i - fr)) (s.drop i) = [(s.drop fr).take (i - fr)] := by
  rw [show s.drop i = [] from List.drop_eq_nil_of_le (by omega)]; rfl
theorem cut_hit {c : UInt8} {s : List UInt8} {fr i : Nat} (h : s[i]? = some c) : cutGo c ((s.drop fr).take (i - fr)) (s.drop i) = (s.drop fr).take (i - fr) :: cutGo c ((s.drop (i + 1)).take (i + 1 - (i + 1))) (s.drop (i + 1)) := by
  obtain ⟨hi, he⟩ := List.getElem?_eq_some_iff.1 h
  rw [List.drop_eq_getElem_cons hi, he, cutGo, if_pos rfl, Nat.sub_self, List.take_zero]
theorem cut_skip {c x : UInt8} {s : List UInt8} {fr i : Nat} (h : s[i]? = some x) (hx : x ≠ c) (hf : fr ≤ i) : cutGo c ((s.drop fr).take (i - fr)) (s.drop i) = cutGo c ((s.drop fr).take (i + 1 - fr)) (s.drop (i + 1)) := by
  obtain ⟨hi, he⟩ := List.getElem?_eq_some_iff.1 h
  rw [List.drop_eq_getElem_cons hi, he, cutGo, if_neg hx]
  congr 1
  rw [show i + 1 - fr = (i - fr) + 1 by omega, List.take_add_one]
  congr 1
  rw [List.getElem?_drop, show fr + (i - fr) = i by omega, h]
  rfl
theorem sat_l7Cut (P : Program) (ins : List Value) (K : List Value → Prop) (ht : TypedL [.str, .int .u8] ins) (h : SP_l7Cut ins K) : sat P (specsOf Fs_l7Cut) tr_l7Cut ins [] K := by
  obtain ⟨s, c, rfl, hs, hK⟩ := h
  refine evs_step (app_empty (by omega) fun a2 cap2 => evs_nil ?_)
  refine ⟨fun vs => ∃ (i fr : Nat) (a : Option Addr) (cap : Nat) (done : List (List UInt8)), vs = [.int .i64 i, .int .i64 fr, .slice a done.length cap, rowS done] ∧ i ≤ s.length + 1 ∧ fr ≤ i ∧
      (i ≤ s.length → cut c s = done ++ cutGo c ((s.drop fr).take (i - fr)) (s.drop i)) ∧ (i = s.length + 1 → cut c s = done) ∧ done.length ≤ i, fun vs => s.length + 1 - (toI (vs.getD 0 undef)).toNat, ?_, ?_⟩
  · exact ⟨0, 0, a2, cap2, [], rfl, by omega, by omega, fun _ => by simp [cut], fun h => by omega, by simp⟩
  · rintro vs hty ⟨i, fr, a, cap, done, rfl, hi, hfr, h1, h2, hd⟩
    have hlen : lenV (bv s) = (s.length : Int) := len_bv s
    refine ⟨fun hc => ?_, fun hc => ?_⟩
    · have hc : Value.bool (decide ((i : Int) ≤ lenV (bv s))) = .bool true := hc
      rw [hlen] at hc
      have hle : i ≤ s.length := by have := bt_of hc; omega
      have hcut := h1 hle
      have hw : IntKind.i64.wrap ((i : Int) + 1) = ((i + 1 : Nat) : Int) := by rw [wrap_in (by omega)]; omega
      refine evs_step (need_step (all_cons (need_if fun _ => ?_) (all_cons (need_if fun hg => ?_) all_nil)) (evs_nil ?_))
      · exact bt (Int.natCast_nonneg i)
      · have hg : (!((i : Int) == lenV (bv s))) = true := hg
        rw [hlen] at hg
        have : ¬ (i : Int) = s.length := by simpa using hg
        show Value.bool (decide ((i : Int) < lenV (bv s))) = _
        rw [hlen]
        exact bt (by omega)
      · have hbr : ∀ b, (if (((i : Int) == lenV (bv s)) : Bool) = true then Value.bool true else Value.bool (byteV (strV (bv s)) i == (c.toNat : Int))) = .bool b →
            (b = true ∧ (i = s.length ∨ s[i]? = some c)) ∨ (b = false ∧ ∃ x, s[i]? = some x ∧ x ≠ c) := by
          intro b hb
          rw [hlen] at hb
          by_cases he : i = s.length
          · rw [if_pos (by simp [he])] at hb
            exact .inl ⟨(Value.bool.inj hb).symm, .inl he⟩
          · rw [if_neg (by simp; omega)] at hb
            have hil : i < s.length := by omega
            rw [byte_bv (List.getElem?_eq_getElem hil)] at hb
            have hb := Value.bool.inj hb
            by_cases hx : s[i] = c
            · refine .inl ⟨by rw [← hb, hx]; simp, .inr (by rw [List.getElem?_eq_getElem hil, hx])⟩
            · refine .inr ⟨?_, s[i], List.getElem?_eq_getElem hil, hx⟩
              rw [← hb, beq_eq_false_iff_ne]
              intro e
              exact hx (UInt8.toNat_inj.1 (by omega))
        refine ⟨fun hx => ?_, fun hx => ?_⟩
        · have hyes : i = s.length ∨ s[i]? = some c := by
            rcases hbr true hx with h | h
            · exact h.2
            · cases h.1
          have hdl : done.length + 1 ≤ 2097154 := by omega
          refine evs_step (need_step (all_cons (bt (Int.natCast_nonneg fr)) (all_cons ?_ (all_cons hc all_nil))) (app_step (xs := done.map bv) (ys := [bv ((s.drop fr).take (i - fr))]) rfl ?_ (by simp; omega) fun a3 len3 cap3 _ hl => evs_nil ?_))
          · show Value.bool (decide ((fr : Int) ≤ (i : Int))) = _
            exact bt (by omega)
          · show [Value.string ((strV (bv s)).extract ((fr : Int)).toNat ((i : Int)).toNat)] = _
            rw [Int.toNat_natCast, Int.toNat_natCast, extract_bv]
          · have hl3 : len3 = (done ++ [(s.drop fr).take (i - fr)]).length := by simp at hl ⊢; omega
            subst hl3
            show (∃ _, _) ∧ _
            rw [show Value.agg (done.map bv ++ [bv ((s.drop fr).take (i - fr))]).toArray = rowS (done ++ [(s.drop fr).take (i - fr)]) from rowS_snoc _ _]
            refine ⟨⟨i + 1, i + 1, a3, cap3, done ++ [(s.drop fr).take (i - fr)], ?_, by omega, by omega, fun hle2 => ?_, fun he => ?_, by simp; omega⟩, ?_⟩
            · show [Value.int .i64 (IntKind.i64.wrap ((i : Int) + 1)), .int .i64 (IntKind.i64.wrap ((i : Int) + 1)), .slice a3 (done ++ [(s.drop fr).take (i - fr)]).length cap3, rowS (done ++ [(s.drop fr).take (i - fr)])] = _
              rw [hw]
            · rw [hcut]
              rcases hyes with h | h
              · omega
              · rw [cut_hit h]; simp
            · rw [hcut, cut_last (by omega)]
            · show s.length + 1 - (IntKind.i64.wrap ((i : Int) + 1)).toNat < s.length + 1 - ((i : Int)).toNat
              rw [hw]; omega
        · obtain ⟨x, hxs, hxc⟩ : ∃ x, s[i]? = some x ∧ x ≠ c := by
            rcases hbr false hx with h | h
            · cases h.1
            · exact h.2
          have hil := (List.getElem?_eq_some_iff.1 hxs).1
          refine ⟨⟨i + 1, fr, a, cap, done, ?_, by omega, by omega, fun hle2 => ?_, fun he => by omega, by omega⟩, ?_⟩
          · show [Value.int .i64 (IntKind.i64.wrap ((i : Int) + 1)), .int .i64 fr, .slice a done.length cap, rowS done] = _
            rw [hw]
          · rw [hcut, cut_skip hxs hxc hfr]
          · show s.length + 1 - (IntKind.i64.wrap ((i : Int) + 1)).toNat < s.length + 1 - ((i : Int)).toNat
            rw [hw]; omega
    · have hc : Value.bool (decide ((i : Int) ≤ lenV (bv s))) = .bool false := hc
      rw [hlen] at hc
      have hn := bf_of hc
      have hcut := h2 (by omega)
      rw [hcut] at hK
      exact hK a _ cap rfl
def tr_l7Number : Tr :=
  (.evs [.call 0 [(.len (.var 0)), (.int .i64 1), (.int .i64 4)] none 1]
  (.ite (.not (.var 1))
  (.ret [(.int .i64 0), (.bool false)])
  (.lp 0 [(.int .i64 0), (.int .i64 1), (.int .i64 0)] [.int .i64, .int .i64, .int .i64]
   (.ite (.cmp .lss (.var 2) (.len (.var 0)))
    (.evs [.need [(.ite (.cmp .eql (.var 2) (.int .i64 0)) (.cmp .leq (.int .i64 0) (.var 2)) (.bool true)), (.ite (.cmp .eql (.var 2) (.int .i64 0)) (.cmp .lss (.var 2) (.len (.var 0))) (.bool true))]]
     (.ite (.ite (.cmp .eql (.var 2) (.int .i64 0)) (.cmp .eql (.sidx (.var 0) (.var 2)) (.int .u8 45)) (.bool false))
     (.next 0 [(.ar .add .i64 (.var 2) (.int .i64 1)), (.int .i64 (-1)), (.var 4)])
     (.evs [.need [(.cmp .leq (.int .i64 0) (.var 2)), (.cmp .lss (.var 2) (.len (.var 0)))],
        .need [(.ite (.cmp .geq (.sidx (.var 0) (.var 2)) (.int .u8 48)) (.cmp .leq (.int .i64 0) (.var 2)) (.bool true)), (.ite (.cmp .geq (.sidx (.var 0) (.var 2)) (.int .u8 48)) (.cmp .lss (.var 2) (.len (.var 0))) (.bool true))]]
      (.ite (.ite (.cmp .geq (.sidx (.var 0) (.var 2)) (.int .u8 48)) (.cmp .leq (.sidx (.var 0) (.var 2)) (.int .u8 57)) (.bool false))
      (.evs [.need [(.cmp .leq (.int .i64 0) (.var 2)), (.cmp .lss (.var 2) (.len (.var 0)))]]
       (.next 0 [(.ar .add .i64 (.var 2) (.int .i64 1)), (.var 3), (.ar .add .i64 (.ar .mul .i64 (.int .i64 10) (.var 4)) (.conv .i64 (.ar .sub .u8 (.sidx (.var 0) (.var 2)) (.int .u8 48))))]))
      (.ret [(.int .i64 0), (.bool false)])))))
    (.evs [.call 1 [(.ar .mul .i64 (.var 3) (.var 4))] none 1]
     (.ret [(.ar .mul .i64 (.var 3) (.var 4)), (.seq (.var 5) (.var 0))]))))))
def Ss_l7Number : List Spec := [G_l6In.spec, SP_l6Dec]
def SP_l7Number : Spec := SP_num snum
def nst : List UInt8 → Option (Int × Nat)
  | [] => some (1, 0)
  | x :: r => if x = 45 then (digGo 0 r).map fun n => (-1, n) else (digGo 0 (x :: r)).map fun n => (1, n)
theorem digGo_app (b : List UInt8) : ∀ (a : List UInt8) (acc : Nat), digGo acc (a ++ b) = (digGo acc a).bind fun u => digGo u b
  | [], acc => rfl
  | x :: r, acc => by
    simp only [List.cons_append, digGo]
    split
    · exact digGo_app b r _
    · rfl
theorem nst_step {p : List UInt8} {x : UInt8} {sg : Int} {n : Nat} (h : nst p = some (sg, n)) : nst (p ++ [x]) = if p = [] ∧ x = 45 then some (-1, 0) else if 48 ≤ x.toNat ∧ x.toNat ≤ 57 then some (sg, 10 * n + (x.toNat - 48)) else none := by
  cases p with
  | nil =>
    cases h
    by_cases hx : x = 45
    · simp [nst, hx, digGo]
    · simp only [List.nil_append, nst, hx, and_false, if_false, digGo]
      split <;> simp
  | cons y r =>
    rw [if_neg (by simp)]
    simp only [List.cons_append, nst] at h ⊢
    by_cases hy : y = 45
    · rw [if_pos hy] at h ⊢
      cases hd : digGo 0 r with
      | none => rw [hd] at h; cases h
      | some u =>
        rw [hd] at h
        cases h
        rw [digGo_app, hd]
        simp only [Option.bind_some, digGo]
        split <;> simp
    · rw [if_neg hy] at h ⊢
      cases hd : digGo 0 (y :: r) with
      | none => rw [hd] at h; cases h
      | some u =>
        rw [hd] at h
        cases h
        have e : digGo 0 (y :: (r ++ [x])) = (digGo 0 (y :: r)).bind fun u => digGo u [x] := digGo_app [x] (y :: r) 0
        rw [e, hd]
        simp only [Option.bind_some, digGo]
        split <;> simp
theorem nst_none {p q : List UInt8} (h : nst p = none) : nst (p ++ q) = none := by
  cases p with
  | nil => cases h
  | cons y r =>
    simp only [List.cons_append, nst] at h ⊢
    split at h
    · rename_i hy
      rw [if_pos hy, digGo_app]
      rw [Option.map_eq_none_iff] at h
      rw [h]; rfl
    · rename_i hy
      rw [if_neg hy]
      rw [Option.map_eq_none_iff] at h
      have e : digGo 0 (y :: (r ++ q)) = (digGo 0 (y :: r)).bind fun u => digGo u q := digGo_app q (y :: r) 0
      rw [e, h]; rfl
theorem sraw_nst {l : List UInt8} (h : l ≠ []) : sraw l = (nst l).map fun p => p.1 * (p.2 : Int) := by
  cases l with
  | nil => exact absurd rfl h
  | cons x r =>
    simp only [sraw, nst]
    split
    · cases digGo 0 r <;> simp
    · cases digGo 0 (x :: r) <;> simp
theorem nst_lt {p : List UInt8} {sg : Int} {n : Nat} (h : nst p = some (sg, n)) : (sg = 1 ∨ sg = -1) ∧ n < 10 ^ p.length := by
  cases p with
  | nil => cases h; exact ⟨.inl rfl, by simp⟩
  | cons y r =>
    simp only [nst] at h
    split at h
    · cases hd : digGo 0 r with
      | none => rw [hd] at h; cases h
      | some u =>
        rw [hd] at h
        cases h
        have := digGo_lt hd
        refine ⟨.inr rfl, ?_⟩
        rw [List.length_cons, Nat.pow_succ]
        omega
    · cases hd : digGo 0 (y :: r) with
      | none => rw [hd] at h; cases h
      | some u =>
        rw [hd] at h
        cases h
        have := digGo_lt hd
        exact ⟨.inl rfl, by omega⟩
set_option maxHeartbeats 1000000 in
theorem sat_l7Number (P : Program) (ins : List Value) (K : List Value → Prop) (_ : TypedL [.str] ins) (h : SP_l7Number ins K) : sat P Ss_l7Number tr_l7Number ins [] K := by
  obtain ⟨l, rfl, hl, hK⟩ := h
  have hlen : lenV (bv l) = (l.length : Int) := len_bv l
  refine evs_step (call_step rfl ⟨trivial, evs_nil ?_⟩)
  have hno : snum l = none → ∀ z, I64 z → K [.int .i64 z, .bool false] := by
    intro hn
    rw [hn] at hK
    exact hK
  have hin : i0 [lenV (bv l) |> Value.int .i64, .int .i64 1, .int .i64 4] 0 = (l.length : Int) := by
    show lenV (bv l) = _
    exact hlen
  have hG : G_l6In.out [Value.int .i64 (lenV (bv l)), .int .i64 1, .int .i64 4] = [.bool (inRg (l.length : Int) 1 4)] := by
    show [Value.bool (inRg (lenV (bv l)) 1 4)] = _
    rw [hlen]
  show sat P _ _ ([bv l] ++ G_l6In.out [Value.int .i64 (lenV (bv l)), .int .i64 1, .int .i64 4]) _ K
  rw [hG]
  have i640 : I64 0 := by unfold I64; omega
  refine ⟨fun hc => ?_, fun hc => ?_⟩
  · have hc : Value.bool (!inRg (l.length : Int) 1 4) = .bool true := hc
    have hc := Value.bool.inj hc
    refine hno ?_ 0 i640
    unfold snum
    split
    · rename_i h4
      have : l = [] := by
        cases l with
        | nil => rfl
        | cons x r => simp [inRg] at hc; simp at h4; omega
      rw [this]; rfl
    · rfl
  · have hc : Value.bool (!inRg (l.length : Int) 1 4) = .bool false := hc
    have hc := Value.bool.inj hc
    have h14 : 1 ≤ l.length ∧ l.length ≤ 4 := by simp [inRg] at hc; omega
    have hne : l ≠ [] := by intro e; rw [e] at h14; simp at h14
    refine ⟨fun vs => ∃ (i : Nat) (sg : Int) (n : Nat), vs = [.int .i64 i, .int .i64 sg, .int .i64 n] ∧ i ≤ l.length ∧ nst (l.take i) = some (sg, n), fun vs => l.length - (toI (vs.getD 0 undef)).toNat, ?_, ?_⟩
    · exact ⟨0, 1, 0, rfl, Nat.zero_le _, rfl⟩
    · rintro vs hty ⟨i, sg, n, rfl, hi, hst⟩
      obtain ⟨hsg, hn⟩ := nst_lt hst
      have hn4 : n < 10000 := by
        have h1 : (l.take i).length ≤ 4 := by simp; omega
        have := Nat.pow_le_pow_right (n := 10) (by decide) h1
        omega
      refine ⟨fun hc => ?_, fun hc => ?_⟩
      · have hc : Value.bool (decide ((i : Int) < lenV (bv l))) = .bool true := hc
        have hc2 := hc
        rw [hlen] at hc2
        have hlt : i < l.length := by have := bt_of hc2; omega
        have hx := List.getElem?_eq_getElem hlt
        have hb : byteV (strV (bv l)) (i : Int) = (l[i].toNat : Int) := byte_bv hx
        have hw : IntKind.i64.wrap ((i : Int) + 1) = ((i + 1 : Nat) : Int) := by rw [wrap_in (by omega)]; omega
        have htk : l.take (i + 1) = l.take i ++ [l[i]] := by rw [List.take_add_one, hx]; rfl
        have hstep := nst_step (x := l[i]) hst
        rw [← htk] at hstep
        have hmu : ∀ a b, l.length - (toI ([Value.int .i64 (IntKind.i64.wrap ((i : Int) + 1)), a, b].getD 0 undef)).toNat < l.length - (toI ([Value.int .i64 (i : Int), .int .i64 sg, .int .i64 n].getD 0 undef)).toNat := by
          intro a b
          show l.length - (IntKind.i64.wrap ((i : Int) + 1)).toNat < l.length - ((i : Int)).toNat
          rw [hw, Int.toNat_natCast, Int.toNat_natCast]
          clear hn4 hst hstep
          omega
        have hnil : l.take i = [] ↔ i = 0 := by
          constructor
          · intro e
            exact (List.take_eq_nil_iff.1 e).elim id fun h => absurd h hne
          · rintro rfl; rfl
        have h0i : Value.bool (decide (0 ≤ (i : Int))) = .bool true := bt (Int.natCast_nonneg i)
        have hfail : nst (l.take (i + 1)) = none → snum l = none := by
          intro hnn
          have : nst l = none := by
            rw [← List.take_append_drop (i + 1) l]
            exact nst_none hnn
          unfold snum
          rw [if_pos h14.2, sraw_nst hne, this]
          rfl
        refine evs_step (need_step (all_cons (need_if fun _ => h0i) (all_cons (need_if fun _ => hc) all_nil)) (evs_nil ?_))
        refine ⟨fun hg => ?_, fun hg => ?_⟩
        · have hg : (if ((i : Int) == 0) = true then Value.bool (byteV (strV (bv l)) i == 45) else Value.bool false) = .bool true := hg
          rw [hb] at hg
          have hi0 : i = 0 := by
            by_cases e : i = 0
            · exact e
            · rw [if_neg (by simp; omega)] at hg; cases hg
          rw [if_pos (by simp [hi0])] at hg
          have h45 : l[i] = 45 := by
            have := Value.bool.inj hg
            have : (l[i].toNat : Int) = 45 := by simpa using this
            exact UInt8.toNat_inj.1 (by show l[i].toNat = 45; omega)
          rw [if_pos ⟨hnil.2 hi0, h45⟩] at hstep
          have hn0 : n = 0 := by
            rw [hnil.2 hi0] at hst
            cases hst; rfl
          refine ⟨⟨i + 1, -1, 0, ?_, hlt, hstep⟩, hmu _ _⟩
          show [Value.int .i64 (IntKind.i64.wrap ((i : Int) + 1)), .int .i64 (-1), .int .i64 n] = _
          rw [hw, hn0]
        · have hg : (if ((i : Int) == 0) = true then Value.bool (byteV (strV (bv l)) i == 45) else Value.bool false) = .bool false := hg
          rw [hb] at hg
          have hno45 : ¬ (l.take i = [] ∧ l[i] = 45) := by
            rintro ⟨e1, e2⟩
            rw [if_pos (by simp [hnil.1 e1]), e2] at hg
            cases hg
          rw [if_neg hno45] at hstep
          refine evs_step (need_step (all_cons h0i (all_cons hc all_nil)) (need_step (all_cons (need_if fun _ => h0i) (all_cons (need_if fun _ => hc) all_nil)) (evs_nil ?_)))
          refine ⟨fun hd => ?_, fun hd => ?_⟩
          · have hd : (if decide (byteV (strV (bv l)) i ≥ 48) = true then Value.bool (decide (byteV (strV (bv l)) i ≤ 57)) else Value.bool false) = .bool true := hd
            rw [hb] at hd
            have hdig : 48 ≤ l[i].toNat ∧ l[i].toNat ≤ 57 := by
              by_cases e : (l[i].toNat : Int) ≥ 48
              · rw [if_pos (by simpa using e)] at hd
                have := bt_of hd
                omega
              · rw [if_neg (by simpa using e)] at hd; cases hd
            rw [if_pos hdig] at hstep
            refine evs_step (need_step (all_cons h0i (all_cons hc all_nil)) (evs_nil ⟨⟨i + 1, sg, 10 * n + (l[i].toNat - 48), ?_, hlt, hstep⟩, hmu _ _⟩))
            show [Value.int .i64 (IntKind.i64.wrap ((i : Int) + 1)), .int .i64 sg, .int .i64 (IntKind.i64.wrap (IntKind.i64.wrap (10 * (n : Int)) + IntKind.i64.wrap (IntKind.u8.wrap (byteV (strV (bv l)) i - 48))))] = _
            rw [hw, hb]
            have e1 : IntKind.u8.wrap ((l[i].toNat : Int) - 48) = ((l[i].toNat - 48 : Nat) : Int) := by
              rw [wrap_of_range (k := .u8) (by simp only [IntKind.min, IntKind.bits, IntKind.signed]; simp; omega) (by simp only [IntKind.max, IntKind.bits, IntKind.signed]; simp; omega)]
              omega
            rw [e1, wrap_in (show I64 (((l[i].toNat - 48 : Nat) : Int)) by unfold I64; omega), wrap_in (show I64 (10 * (n : Int)) by unfold I64; omega), wrap_in (by omega)]
            congr 4
          · have hd : (if decide (byteV (strV (bv l)) i ≥ 48) = true then Value.bool (decide (byteV (strV (bv l)) i ≤ 57)) else Value.bool false) = .bool false := hd
            rw [hb] at hd
            have hdig : ¬ (48 ≤ l[i].toNat ∧ l[i].toNat ≤ 57) := by
              intro e
              rw [if_pos (by simp; omega)] at hd
              have := bf_of hd
              omega
            rw [if_neg hdig] at hstep
            exact hno (hfail hstep) 0 i640
      · have hc : Value.bool (decide ((i : Int) < lenV (bv l))) = .bool false := hc
        rw [hlen] at hc
        have hge : i = l.length := by have := bf_of hc; omega
        subst hge
        rw [List.take_length] at hst
        have hsr : sraw l = some (sg * (n : Int)) := by rw [sraw_nst hne, hst]; rfl
        have hb : I64 (sg * (n : Int)) := by
          unfold I64
          rcases hsg with rfl | rfl <;> omega
        have hw : IntKind.i64.wrap (sg * (n : Int)) = sg * (n : Int) := wrap_in hb
        refine evs_step (call_step rfl ⟨IntKind.i64.wrap (sg * (n : Int)), rfl, evs_nil ?_⟩)
        show K [Value.int .i64 (IntKind.i64.wrap (sg * (n : Int))), .bool ((strV (bv (Lib.itoa (IntKind.i64.wrap (sg * (n : Int)))))).toList == (strV (bv l)).toList)]
        rw [hw, seq_bv]
        unfold snum at hK
        rw [if_pos h14.2, hsr] at hK
        dsimp only at hK
        by_cases he : Lib.itoa (sg * (n : Int)) = l
        · rw [if_pos he] at hK
          rw [decide_eq_true he]
          exact hK
        · rw [if_neg he] at hK
          rw [decide_eq_false he]
          exact hK _ hb
end Go.Sx

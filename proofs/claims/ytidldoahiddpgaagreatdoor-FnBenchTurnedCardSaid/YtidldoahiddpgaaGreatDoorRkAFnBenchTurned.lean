import Derived.Test.YtidldoahiddpgaaGreatDoorEf
import Derived.KernelRfl
namespace Go.Sx
open Go
set_option maxRecDepth 100000
set_option linter.unusedSimpArgs false
set_option linter.unusedVariables false
def tr_size : Tr :=
  (.ret [(.mx false .i64 (.var 0) (.ar .sub .i64 (.int .i64 0) (.var 0)))])
def Fs_size : List Fun1 := []
def F_size : Fun1 := ofTree Fs_size tr_size
def tr_within : Tr :=
  (.ret [(.ite (.cmp .geq (.var 0) (.var 1)) (.cmp .leq (.var 0) (.var 2)) (.bool false))])
def Fs_within : List Fun1 := []
def F_within : Fun1 := ofTree Fs_within tr_within
def G_within : Fun1 := ⟨fun _ => True, fun ins => [.bool (inRg (i0 ins 0) (i0 ins 1) (i0 ins 2))]⟩
theorem as_within (ins : List Value) (ht : TypedL [.int .i64, .int .i64, .int .i64] ins) (_ : G_within.pre ins) : F_within.pre ins ∧ F_within.out ins = G_within.out ins := by
  obtain ⟨a, b, c, rfl, _, _, _⟩ := ints3 ht
  refine ⟨trivial, ?_⟩
  show [if (decide (a ≥ b)) = true then Value.bool (decide (a ≤ c)) else Value.bool false] = [Value.bool (decide (b ≤ a) && decide (a ≤ c))]
  by_cases h : b ≤ a <;> simp [h]
def tr_l6In : Tr :=
  (.ret [(.ite (.cmp .geq (.var 0) (.var 1)) (.cmp .leq (.var 0) (.var 2)) (.bool false))])
def Fs_l6In : List Fun1 := []
def F_l6In : Fun1 := ofTree Fs_l6In tr_l6In
def G_l6In : Fun1 := ⟨fun _ => True, fun ins => [.bool (inRg (i0 ins 0) (i0 ins 1) (i0 ins 2))]⟩
theorem as_l6In (ins : List Value) (ht : TypedL [.int .i64, .int .i64, .int .i64] ins) (_ : G_l6In.pre ins) : F_l6In.pre ins ∧ F_l6In.out ins = G_l6In.out ins := by
  obtain ⟨a, b, c, rfl, _, _, _⟩ := ints3 ht
  refine ⟨trivial, ?_⟩
  show [if (decide (a ≥ b)) = true then Value.bool (decide (a ≤ c)) else Value.bool false] = [Value.bool (decide (b ≤ a) && decide (a ≤ c))]
  by_cases h : b ≤ a <;> simp [h]
def tr_l2In : Tr :=
  (.evs [.call 0 [(.var 0), (.int .i64 (-2000000000)), (.int .i64 2000000000)] none 1]
  (.ret [(.var 1)]))
def Fs_l2In : List Fun1 := [G_l6In]
def F_l2In : Fun1 := ofTree Fs_l2In tr_l2In
def G_l2In : Fun1 := ⟨fun _ => True, fun ins => [.bool (inR (i0 ins 0))]⟩
theorem as_l2In (ins : List Value) (ht : TypedL [.int .i64] ins) (_ : G_l2In.pre ins) : F_l2In.pre ins ∧ F_l2In.out ins = G_l2In.out ins := by
  obtain ⟨a, rfl, _⟩ := ints1 ht
  exact ⟨⟨⟨trivial, trivial⟩, trivial⟩, rfl⟩
def tr_divisor : Tr :=
  (.lp 0 [(.var 0), (.var 1)] [.int .i64, .int .i64]
  (.ite (.cmp .neq (.var 3) (.int .i64 0))
   (.evs [.need [(.cmp .neq (.var 3) (.int .i64 0))]]
    (.next 0 [(.var 3), (.ar .rem .i64 (.var 2) (.var 3))]))
   (.ret [(.var 2)])))
def Fs_divisor : List Fun1 := []
def F_divisor : Fun1 := ⟨fun _ => True, fun ins => [.int .i64 (euc (i0 ins 0) (i0 ins 1))]⟩
theorem sat_divisor (P : Program) (ins : List Value) (K : List Value → Prop) (ht : TypedL [.int .i64, .int .i64] ins) (_ : F_divisor.pre ins) (hK : K (F_divisor.out ins)) : sat P (specsOf Fs_divisor) tr_divisor ins [] K := by
  obtain ⟨a, b, rfl, wa, wb⟩ := ints2 ht
  refine ⟨fun vs => ∃ x y, vs = [.int .i64 x, .int .i64 y] ∧ euc x y = euc a b, fun vs => (toI (vs.getD 1 undef)).natAbs, ⟨a, b, rfl, rfl⟩, ?_⟩
  rintro vs hty ⟨x, y, rfl, he⟩
  refine ⟨fun hc => ?_, fun hc => ?_⟩
  · have hy : y ≠ 0 := by simpa [ev, cmpI] using hc
    refine ⟨fun e he' => by rw [List.mem_singleton.1 he']; exact hc, ⟨_, _, rfl, ?_⟩, ?_⟩
    · rw [← he, euc_step hy]; rfl
    · show (x.tmod y).natAbs < y.natAbs
      rw [Int.natAbs_tmod]
      exact Nat.mod_lt _ (by omega)
  · have hy : y = 0 := by simpa [ev, cmpI] using hc
    subst hy
    rw [euc_zero] at he
    show K [.int .i64 x]
    rw [he]
    exact hK
def tr_l2Gcd : Tr :=
  (.lp 0 [(.var 0), (.var 1)] [.int .i64, .int .i64]
  (.ite (.cmp .neq (.var 3) (.int .i64 0))
   (.evs [.need [(.cmp .neq (.var 3) (.int .i64 0))]]
    (.next 0 [(.var 3), (.ar .rem .i64 (.var 2) (.var 3))]))
   (.ret [(.mx false .i64 (.var 2) (.ar .sub .i64 (.int .i64 0) (.var 2)))])))
def Fs_l2Gcd : List Fun1 := []
def F_l2Gcd : Fun1 := ⟨fun _ => True, fun ins => [.int .i64 (mxI false (euc (i0 ins 0) (i0 ins 1)) (IntKind.i64.wrap (0 - euc (i0 ins 0) (i0 ins 1))))]⟩
theorem sat_l2Gcd (P : Program) (ins : List Value) (K : List Value → Prop) (ht : TypedL [.int .i64, .int .i64] ins) (_ : F_l2Gcd.pre ins) (hK : K (F_l2Gcd.out ins)) : sat P (specsOf Fs_l2Gcd) tr_l2Gcd ins [] K := by
  obtain ⟨a, b, rfl, wa, wb⟩ := ints2 ht
  refine ⟨fun vs => ∃ x y, vs = [.int .i64 x, .int .i64 y] ∧ euc x y = euc a b, fun vs => (toI (vs.getD 1 undef)).natAbs, ⟨a, b, rfl, rfl⟩, ?_⟩
  rintro vs hty ⟨x, y, rfl, he⟩
  refine ⟨fun hc => ?_, fun hc => ?_⟩
  · have hy : y ≠ 0 := by simpa [ev, cmpI] using hc
    refine ⟨fun e he' => by rw [List.mem_singleton.1 he']; exact hc, ⟨_, _, rfl, ?_⟩, ?_⟩
    · rw [← he, euc_step hy]; rfl
    · show (x.tmod y).natAbs < y.natAbs
      rw [Int.natAbs_tmod]
      exact Nat.mod_lt _ (by omega)
  · have hy : y = 0 := by simpa [ev, cmpI] using hc
    subst hy
    rw [euc_zero] at he
    show K [.int .i64 (mxI false x (IntKind.i64.wrap (0 - x)))]
    rw [he]
    exact hK
def tr_lowest : Tr :=
  (.evs [.call 0 [(.var 0)] none 1,
    .call 0 [(.var 1)] none 1,
    .call 1 [(.var 3), (.var 4)] none 1,
    .call 1 [(.var 5), (.var 2)] none 1]
  (.evs [.need [(.cmp .neq (.var 6) (.int .i64 0)), (.cmp .neq (.var 6) (.int .i64 0)), (.cmp .neq (.var 6) (.int .i64 0))]]
  (.evs [.call 2 [(.ar .quo .i64 (.var 0) (.var 6)), (.int .i64 (-2000000000)), (.int .i64 2000000000)] none 1,
    .call 2 [(.ar .quo .i64 (.var 1) (.var 6)), (.int .i64 (-2000000000)), (.int .i64 2000000000)] (some (.not (.not (.var 7)))) 1]
  (.ite (.ite (.ite (.not (.var 7)) (.bool true) (.not (.var 8))) (.bool true) (.cmp .gtr (.ar .quo .i64 (.var 2) (.var 6)) (.int .i64 2000000000)))
  (.ret [(.int .i64 0), (.int .i64 0), (.int .i64 0), (.bool false)])
  (.ret [(.ar .quo .i64 (.var 0) (.var 6)), (.ar .quo .i64 (.var 1) (.var 6)), (.ar .quo .i64 (.var 2) (.var 6)), (.bool true)])))))
def Fs_lowest : List Fun1 := [F_size, F_divisor, G_within]
def F_lowest : Fun1 := ofTree Fs_lowest tr_lowest
def G_lowest : Fun1 := ⟨fun ins => lowOk (i0 ins 0) (i0 ins 1) (i0 ins 2), fun ins => fr4 (lowI (i0 ins 0) (i0 ins 1) (i0 ins 2))⟩
theorem as_lowest (ins : List Value) (ht : TypedL [.int .i64, .int .i64, .int .i64] ins) (hp : G_lowest.pre ins) : F_lowest.pre ins ∧ F_lowest.out ins = G_lowest.out ins := by
  obtain ⟨a, b, c, rfl, wa, wb, wc⟩ := ints3 ht
  obtain ⟨p1, p2, p3, p4, p5, p6⟩ : lowOk a b c := hp
  have e1 := size_abs ⟨p1, p2⟩
  have e2 := size_abs ⟨p3, p4⟩
  have e3 : euc (a.natAbs : Nat) (b.natAbs : Nat) = (Nat.gcd a.natAbs b.natAbs : Nat) := euc_nat _ _
  have e4 : euc (Nat.gcd a.natAbs b.natAbs : Nat) c = (gcd3 a b c : Nat) := by rw [euc_eq (by omega) (by omega)]; rfl
  have hg : gcd3 a b c ≠ 0 := by have := gcd3_pos (a := a) (b := b) p5; omega
  have hgi : ((gcd3 a b c : Nat) : Int) ≠ 0 := by omega
  have q1 := quo_ok (g := gcd3 a b c) ⟨p1, p2⟩
  have q2 := quo_ok (g := gcd3 a b c) ⟨p3, p4⟩
  have q3 := quo_ok (a := c) (g := gcd3 a b c) ⟨by omega, p6⟩
  simp only [F_lowest, G_lowest, tr_lowest, Fs_lowest, F_size, tr_size, Fs_size, F_divisor, G_within, lowI, arI, ofTree, okT, okE, evalT, evalE, evsIn, ev, callF, preF, hasF, needs, i0, b0, toI_int, toB_bool, List.getD_cons_zero, List.getD_cons_succ, List.cons_append, List.nil_append, List.replicate, if_true, if_false, Bool.false_eq_true, and_true, true_and, implies_true, forall_const, false_implies, cmpI, Bool.not_true, Bool.not_false, Bool.true_and, Bool.false_and, Bool.and_true, Bool.and_false, reduceIte, List.append_nil, reduceCtorEq, e1, e2, e3, e4, q1, q2, q3]
  have r1 : ∀ z, inRg z (-2000000000) 2000000000 = inR z := fun _ => rfl
  simp only [r1]
  cases h1 : inR (a.tdiv (gcd3 a b c)) <;> cases h2 : inR (b.tdiv (gcd3 a b c)) <;> by_cases h3 : c.tdiv (gcd3 a b c) ≤ 2000000000 <;> simp [h1, h2, h3, hgi, hg, fr4, zq] <;> omega
def tr_sFracValid : Tr :=
  (.evs [.call 0 [(.var 0)] none 1,
    .call 0 [(.var 1)] (some (.var 3)) 1,
    .call 1 [(.var 2), (.int .i64 1), (.int .i64 2000000000)] (some (.ite (.var 3) (.var 4) (.bool false))) 1,
    .call 2 [(.var 2), (.var 0)] (some (.ite (.ite (.var 3) (.var 4) (.bool false)) (.var 5) (.bool false))) 1,
    .call 2 [(.var 6), (.var 1)] (some (.ite (.ite (.var 3) (.var 4) (.bool false)) (.var 5) (.bool false))) 1]
  (.ret [(.ite (.ite (.ite (.var 3) (.var 4) (.bool false)) (.var 5) (.bool false)) (.cmp .eql (.var 7) (.int .i64 1)) (.bool false))]))
def Fs_sFracValid : List Fun1 := [G_l2In, G_l6In, F_l2Gcd]
def F_sFracValid : Fun1 := ofTree Fs_sFracValid tr_sFracValid
def G_sFracValid : Fun1 := ⟨fun _ => True, fun ins => [.bool (validI (i0 ins 0) (i0 ins 1) (i0 ins 2))]⟩
theorem as_sFracValid (ins : List Value) (ht : TypedL [.int .i64, .int .i64, .int .i64] ins) (_ : G_sFracValid.pre ins) : F_sFracValid.pre ins ∧ F_sFracValid.out ins = G_sFracValid.out ins := by
  obtain ⟨a, b, c, rfl, wa, wb, wc⟩ := ints3 ht
  have key : inR a = true → inR b = true → inRg c 1 2000000000 = true → mxI false (euc c a) (IntKind.i64.wrap (0 - euc c a)) = (Nat.gcd c.natAbs a.natAbs : Nat) ∧
      mxI false (euc (Nat.gcd c.natAbs a.natAbs : Nat) b) (IntKind.i64.wrap (0 - euc (Nat.gcd c.natAbs a.natAbs : Nat) b)) = (gcd3 a b c : Nat) := by
    intro ha hb hc
    simp only [inR, inRg, Bool.and_eq_true, decide_eq_true_eq] at ha hb hc
    have h0 : Nat.gcd c.natAbs a.natAbs ≤ c.natAbs := Nat.gcd_le_left _ (by omega)
    have hp : 0 < Nat.gcd c.natAbs a.natAbs := Nat.gcd_pos_of_pos_left _ (by omega)
    refine ⟨gcd_small (by omega), ?_⟩
    have h2 : Nat.gcd ((Nat.gcd c.natAbs a.natAbs : Nat) : Int).natAbs b.natAbs ≤ Nat.gcd c.natAbs a.natAbs := Nat.gcd_le_left _ hp
    rw [gcd_small (by omega), Int.natAbs_natCast, gcd3_alt]
  simp only [F_sFracValid, G_sFracValid, tr_sFracValid, Fs_sFracValid, G_l2In, G_l6In, F_l2Gcd, validI, ofTree, okT, okE, evalT, evalE, evsIn, ev, callF, preF, hasF, needs, i0, b0, toI_int, toB_bool, List.getD_cons_zero, List.getD_cons_succ, List.cons_append, List.nil_append, List.replicate, if_true, if_false, Bool.false_eq_true, and_true, true_and, implies_true, forall_const, false_implies, cmpI, Bool.not_true, Bool.not_false, Bool.true_and, Bool.false_and, Bool.and_true, Bool.and_false, reduceIte, List.append_nil, reduceCtorEq]
  cases ha : inR a
  · simp [ha]
  · cases hb : inR b
    · simp [ha, hb]
    · cases hc : inRg c 1 2000000000
      · simp [ha, hb, hc]
      · obtain ⟨k1, k2⟩ := key ha hb hc
        simp only [ha, hb, hc, k1, k2, ofTree, okT, okE, evalT, evalE, evsIn, ev, callF, preF, hasF, needs, i0, b0, toI_int, toB_bool, List.getD_cons_zero, List.getD_cons_succ, List.cons_append, List.nil_append, List.replicate, if_true, if_false, Bool.false_eq_true, and_true, true_and, implies_true, forall_const, false_implies, cmpI, Bool.not_true, Bool.not_false, Bool.true_and, Bool.false_and, Bool.and_true, Bool.and_false, reduceIte, List.append_nil, reduceCtorEq]
        simp
        by_cases h1 : gcd3 a b c = 1
        · simp [h1]
        · rw [beq_eq_false_iff_ne.2 h1, beq_eq_false_iff_ne]
          omega
def tr_l2Low : Tr :=
  (.evs [.call 0 [(.var 2), (.var 0)] none 1,
    .call 0 [(.var 3), (.var 1)] none 1]
  (.evs [.need [(.cmp .neq (.var 4) (.int .i64 0)), (.cmp .neq (.var 4) (.int .i64 0)), (.cmp .neq (.var 4) (.int .i64 0))]]
  (.evs [.call 1 [(.ar .quo .i64 (.var 0) (.var 4)), (.ar .quo .i64 (.var 1) (.var 4)), (.ar .quo .i64 (.var 2) (.var 4))] none 1]
  (.ite (.not (.var 5))
  (.ret [(.int .i64 0), (.int .i64 0), (.int .i64 0), (.bool false)])
  (.ret [(.ar .quo .i64 (.var 0) (.var 4)), (.ar .quo .i64 (.var 1) (.var 4)), (.ar .quo .i64 (.var 2) (.var 4)), (.bool true)])))))
def Fs_l2Low : List Fun1 := [F_l2Gcd, G_sFracValid]
def F_l2Low : Fun1 := ofTree Fs_l2Low tr_l2Low
def G_l2Low : Fun1 := ⟨fun ins => lowOk (i0 ins 0) (i0 ins 1) (i0 ins 2), fun ins => fr4 (lowI (i0 ins 0) (i0 ins 1) (i0 ins 2))⟩
theorem as_l2Low (ins : List Value) (ht : TypedL [.int .i64, .int .i64, .int .i64] ins) (hp : G_l2Low.pre ins) : F_l2Low.pre ins ∧ F_l2Low.out ins = G_l2Low.out ins := by
  obtain ⟨a, b, c, rfl, wa, wb, wc⟩ := ints3 ht
  obtain ⟨p1, p2, p3, p4, p5, p6⟩ : lowOk a b c := hp
  have hc0 : 0 < c.natAbs := by omega
  have g1 : Nat.gcd c.natAbs a.natAbs ≤ c.natAbs := Nat.gcd_le_left _ hc0
  have gp : 0 < Nat.gcd c.natAbs a.natAbs := Nat.gcd_pos_of_pos_left _ hc0
  have e1 : mxI false (euc c a) (IntKind.i64.wrap (0 - euc c a)) = (Nat.gcd c.natAbs a.natAbs : Nat) := gcd_small (by omega)
  have g2 : Nat.gcd ((Nat.gcd c.natAbs a.natAbs : Nat) : Int).natAbs b.natAbs ≤ Nat.gcd c.natAbs a.natAbs := Nat.gcd_le_left _ gp
  have e2 : mxI false (euc (Nat.gcd c.natAbs a.natAbs : Nat) b) (IntKind.i64.wrap (0 - euc (Nat.gcd c.natAbs a.natAbs : Nat) b)) = (gcd3 a b c : Nat) := by
    rw [gcd_small (by omega), Int.natAbs_natCast, gcd3_alt]
  have hg : gcd3 a b c ≠ 0 := by have := gcd3_pos (a := a) (b := b) p5; omega
  have hgi : ((gcd3 a b c : Nat) : Int) ≠ 0 := by omega
  have q1 := quo_ok (g := gcd3 a b c) ⟨p1, p2⟩
  have q2 := quo_ok (g := gcd3 a b c) ⟨p3, p4⟩
  have q3 := quo_ok (a := c) (g := gcd3 a b c) ⟨by omega, p6⟩
  simp only [F_l2Low, G_l2Low, tr_l2Low, Fs_l2Low, F_l2Gcd, G_sFracValid, lowI, arI, ofTree, okT, okE, evalT, evalE, evsIn, ev, callF, preF, hasF, needs, i0, b0, toI_int, toB_bool, List.getD_cons_zero, List.getD_cons_succ, List.cons_append, List.nil_append, List.replicate, if_true, if_false, Bool.false_eq_true, and_true, true_and, implies_true, forall_const, false_implies, cmpI, Bool.not_true, Bool.not_false, Bool.true_and, Bool.false_and, Bool.and_true, Bool.and_false, reduceIte, List.append_nil, reduceCtorEq, e1, e2, q1, q2, q3, valid_low p5]
  cases h1 : inR (a.tdiv (gcd3 a b c)) <;> cases h2 : inR (b.tdiv (gcd3 a b c)) <;> by_cases h3 : c.tdiv (gcd3 a b c) ≤ 2000000000 <;> simp [h1, h2, h3, hgi, hg, fr4, zq] <;> omega
def tr_sFracMake : Tr :=
  (.evs [.call 0 [(.var 2), (.int .i64 1), (.int .i64 1000000000000000000)] none 1,
    .call 0 [(.var 0), (.int .i64 (-1000000000000000000)), (.int .i64 1000000000000000000)] (some (.not (.not (.var 3)))) 1,
    .call 0 [(.var 1), (.int .i64 (-1000000000000000000)), (.int .i64 1000000000000000000)] (some (.not (.ite (.not (.var 3)) (.bool true) (.not (.var 4))))) 1]
  (.ite (.ite (.ite (.not (.var 3)) (.bool true) (.not (.var 4))) (.bool true) (.not (.var 5)))
  (.ret [(.int .i64 0), (.int .i64 0), (.int .i64 0), (.bool false)])
  (.evs [.call 1 [(.var 0), (.var 1), (.var 2)] none 4]
   (.ret [(.var 6), (.var 7), (.var 8), (.var 9)]))))
def Fs_sFracMake : List Fun1 := [G_l6In, G_l2Low]
def F_sFracMake : Fun1 := ofTree Fs_sFracMake tr_sFracMake
def G_sFracMake : Fun1 := ⟨fun _ => True, fun ins => fr4 (makeI (i0 ins 0) (i0 ins 1) (i0 ins 2))⟩
theorem as_sFracMake (ins : List Value) (ht : TypedL [.int .i64, .int .i64, .int .i64] ins) (hp : G_sFracMake.pre ins) : F_sFracMake.pre ins ∧ F_sFracMake.out ins = G_sFracMake.out ins := by
  obtain ⟨a, b, c, rfl, wa, wb, wc⟩ := ints3 ht
  have hlow : inRg c 1 most = true → inRg a (-most) most = true → inRg b (-most) most = true → lowOk a b c := by
    intro h1 h2 h3
    simp only [inRg, Bool.and_eq_true, decide_eq_true_eq] at h1 h2 h3
    unfold most at h1 h2 h3
    unfold lowOk
    omega
  obtain ⟨x, y, z, t, hx⟩ := fr4_split (lowI a b c)
  simp only [F_sFracMake, G_sFracMake, tr_sFracMake, Fs_sFracMake, G_l6In, G_l2Low, makeI, ofTree, okT, okE, evalT, evalE, evsIn, ev, callF, preF, hasF, needs, i0, b0, toI_int, toB_bool, List.getD_cons_zero, List.getD_cons_succ, List.cons_append, List.nil_append, List.replicate, if_true, if_false, Bool.false_eq_true, and_true, true_and, implies_true, forall_const, false_implies, cmpI, Bool.not_true, Bool.not_false, Bool.true_and, Bool.false_and, Bool.and_true, Bool.and_false, reduceIte, List.append_nil, reduceCtorEq]
  have r1 : inRg c 1 1000000000000000000 = inRg c 1 most := rfl
  have r2 : ∀ z, inRg z (-1000000000000000000) 1000000000000000000 = inRg z (-most) most := fun _ => rfl
  simp only [r1, r2]
  cases h1 : inRg c 1 most
  · simp [h1, fr4, zq]
  · cases h2 : inRg a (-most) most
    · simp [h1, h2, fr4, zq]
    · cases h3 : inRg b (-most) most
      · simp [h1, h2, h3, fr4, zq]
      · simp [h1, h2, h3, hx, hlow h1 h2 h3]
def tr_direction : Tr :=
  (.evs [.call 0 [(.var 0), (.int .i64 (-100)), (.int .i64 100)] none 1,
    .call 0 [(.var 1), (.int .i64 (-100)), (.int .i64 100)] (some (.not (.not (.var 2)))) 1]
  (.ite (.ite (.ite (.not (.var 2)) (.bool true) (.not (.var 3))) (.bool true) (.ite (.cmp .eql (.var 0) (.int .i64 0)) (.cmp .eql (.var 1) (.int .i64 0)) (.bool false)))
  (.ret [(.int .i64 0), (.int .i64 0), (.int .i64 0), (.int .i64 0), (.int .i64 0), (.int .i64 0), (.bool false)])
  (.evs [.call 1 [(.ar .sub .i64 (.ar .mul .i64 (.var 0) (.var 0)) (.ar .mul .i64 (.var 1) (.var 1))), (.int .i64 0), (.ar .add .i64 (.ar .mul .i64 (.var 0) (.var 0)) (.ar .mul .i64 (.var 1) (.var 1)))] none 4]
   (.evs [.call 1 [(.ar .mul .i64 (.ar .mul .i64 (.int .i64 2) (.var 0)) (.var 1)), (.int .i64 0), (.ar .add .i64 (.ar .mul .i64 (.var 0) (.var 0)) (.ar .mul .i64 (.var 1) (.var 1)))] none 4]
   (.ret [(.var 4), (.var 5), (.var 6), (.var 8), (.var 9), (.var 10), (.bool true)])))))
def Fs_direction : List Fun1 := [G_within, G_lowest]
def F_direction : Fun1 := ofTree Fs_direction tr_direction
def G_direction : Fun1 := ⟨fun _ => True, fun ins => dirV (i0 ins 0) (i0 ins 1)⟩
theorem as_direction (ins : List Value) (ht : TypedL [.int .i64, .int .i64] ins) (hp : G_direction.pre ins) : F_direction.pre ins ∧ F_direction.out ins = G_direction.out ins := by
  obtain ⟨p, q, rfl, wp, wq⟩ := ints2 ht
  obtain ⟨x1, y1, z1, t1, hx1, hx1'⟩ := fr4_fr3 (lowI (p * p - q * q) 0 (p * p + q * q))
  obtain ⟨x2, y2, z2, t2, hx2, hx2'⟩ := fr4_fr3 (lowI (2 * p * q) 0 (p * p + q * q))
  simp only [F_direction, G_direction, tr_direction, Fs_direction, G_within, G_lowest, arI, ofTree, okT, okE, evalT, evalE, evsIn, ev, callF, preF, hasF, needs, i0, b0, toI_int, toB_bool, List.getD_cons_zero, List.getD_cons_succ, List.cons_append, List.nil_append, List.replicate, if_true, if_false, Bool.false_eq_true, and_true, true_and, implies_true, forall_const, false_implies, cmpI, Bool.not_true, Bool.not_false, Bool.true_and, Bool.false_and, Bool.and_true, Bool.and_false, reduceIte, List.append_nil, reduceCtorEq]
  cases h1 : inRg p (-100) 100
  · simp [h1, dirV, dirOk, dirC, dirS, fr3, zq]
  · cases h2 : inRg q (-100) 100
    · simp [h1, h2, dirV, dirOk, dirC, dirS, fr3, zq]
    · by_cases h3 : (p == 0 && q == 0) = true
      · have e3 := h3
        simp only [Bool.and_eq_true, beq_iff_eq] at e3
        obtain ⟨rfl, rfl⟩ := e3
        simp [h1, dirV, dirOk, dirC, dirS, fr3, zq]
      · have hd : dirOk p q = true := by
          simp only [dirOk, h1, h2, Bool.true_and]
          cases hb : (p == 0 && q == 0) with
          | true => exact absurd hb h3
          | false => rfl
        obtain ⟨l1, l2, w1, w2, w3, w4, w5, w6, _⟩ := dir_facts hd
        have h3' : (p == 0 && q == 0) = false := by simpa using h3
        have h4 : ¬(p = 0 ∧ q = 0) := by rintro ⟨rfl, rfl⟩; exact h3 rfl
        simp only [dirV, dirC, dirS, hd, if_true, hx1', hx2', w1, w2, w3, w4, w5, w6, hx1, hx2, h1, h2, ofTree, okT, okE, evalT, evalE, evsIn, ev, callF, preF, hasF, needs, i0, b0, toI_int, toB_bool, List.getD_cons_zero, List.getD_cons_succ, List.cons_append, List.nil_append, List.replicate, if_true, if_false, Bool.false_eq_true, and_true, true_and, implies_true, forall_const, false_implies, cmpI, Bool.not_true, Bool.not_false, Bool.true_and, Bool.false_and, Bool.and_true, Bool.and_false, reduceIte, List.append_nil, reduceCtorEq]
        clear hd w1 w2 w3 w4 w5 w6 hx1 hx2 hx1' hx2' h1 h2 ht hp
        generalize p * p - q * q = A at *
        generalize 2 * p * q = B at *
        generalize p * p + q * q = C at *
        by_cases h5 : p = 0
        · by_cases h6 : q = 0
          · exact absurd ⟨h5, h6⟩ h4
          · simp [h5, h6, l1, l2]
        · simp [h5, l1, l2]
def tr_l5Direction : Tr :=
  (.evs [.call 0 [(.var 0), (.int .i64 (-100)), (.int .i64 100)] none 1,
    .call 0 [(.var 1), (.int .i64 (-100)), (.int .i64 100)] (some (.not (.not (.var 2)))) 1]
  (.ite (.ite (.ite (.not (.var 2)) (.bool true) (.not (.var 3))) (.bool true) (.ite (.cmp .eql (.var 0) (.int .i64 0)) (.cmp .eql (.var 1) (.int .i64 0)) (.bool false)))
  (.ret [(.int .i64 0), (.int .i64 0), (.int .i64 0), (.int .i64 0), (.int .i64 0), (.int .i64 0), (.bool false)])
  (.evs [.call 1 [(.ar .sub .i64 (.ar .mul .i64 (.var 0) (.var 0)) (.ar .mul .i64 (.var 1) (.var 1))), (.int .i64 0), (.ar .add .i64 (.ar .mul .i64 (.var 0) (.var 0)) (.ar .mul .i64 (.var 1) (.var 1)))] none 4]
   (.evs [.call 1 [(.ar .mul .i64 (.ar .mul .i64 (.int .i64 2) (.var 0)) (.var 1)), (.int .i64 0), (.ar .add .i64 (.ar .mul .i64 (.var 0) (.var 0)) (.ar .mul .i64 (.var 1) (.var 1)))] none 4]
   (.ret [(.var 4), (.var 5), (.var 6), (.var 8), (.var 9), (.var 10), (.bool true)])))))
def Fs_l5Direction : List Fun1 := [G_l6In, G_sFracMake]
def F_l5Direction : Fun1 := ofTree Fs_l5Direction tr_l5Direction
def G_l5Direction : Fun1 := ⟨fun _ => True, fun ins => dirV (i0 ins 0) (i0 ins 1)⟩
theorem as_l5Direction (ins : List Value) (ht : TypedL [.int .i64, .int .i64] ins) (hp : G_l5Direction.pre ins) : F_l5Direction.pre ins ∧ F_l5Direction.out ins = G_l5Direction.out ins := by
  obtain ⟨p, q, rfl, wp, wq⟩ := ints2 ht
  obtain ⟨x1, y1, z1, t1, hx1, hx1'⟩ := fr4_fr3 (lowI (p * p - q * q) 0 (p * p + q * q))
  obtain ⟨x2, y2, z2, t2, hx2, hx2'⟩ := fr4_fr3 (lowI (2 * p * q) 0 (p * p + q * q))
  simp only [F_l5Direction, G_l5Direction, tr_l5Direction, Fs_l5Direction, G_l6In, G_sFracMake, arI, ofTree, okT, okE, evalT, evalE, evsIn, ev, callF, preF, hasF, needs, i0, b0, toI_int, toB_bool, List.getD_cons_zero, List.getD_cons_succ, List.cons_append, List.nil_append, List.replicate, if_true, if_false, Bool.false_eq_true, and_true, true_and, implies_true, forall_const, false_implies, cmpI, Bool.not_true, Bool.not_false, Bool.true_and, Bool.false_and, Bool.and_true, Bool.and_false, reduceIte, List.append_nil, reduceCtorEq]
  cases h1 : inRg p (-100) 100
  · simp [h1, dirV, dirOk, dirC, dirS, fr3, zq]
  · cases h2 : inRg q (-100) 100
    · simp [h1, h2, dirV, dirOk, dirC, dirS, fr3, zq]
    · by_cases h3 : (p == 0 && q == 0) = true
      · have e3 := h3
        simp only [Bool.and_eq_true, beq_iff_eq] at e3
        obtain ⟨rfl, rfl⟩ := e3
        simp [h1, dirV, dirOk, dirC, dirS, fr3, zq]
      · have hd : dirOk p q = true := by
          simp only [dirOk, h1, h2, Bool.true_and]
          cases hb : (p == 0 && q == 0) with
          | true => exact absurd hb h3
          | false => rfl
        obtain ⟨l1, l2, w1, w2, w3, w4, w5, w6, k1, k2, k3, k4, k5, k6⟩ := dir_facts hd
        have h3' : (p == 0 && q == 0) = false := by simpa using h3
        have h4 : ¬(p = 0 ∧ q = 0) := by rintro ⟨rfl, rfl⟩; exact h3 rfl
        have m1 := make_small k3 k4 k1 k2
        have m2 := make_small k5 k6 k1 k2
        simp only [m1, m2, dirV, dirC, dirS, hd, if_true, hx1', hx2', w1, w2, w3, w4, w5, w6, hx1, hx2, h1, h2, ofTree, okT, okE, evalT, evalE, evsIn, ev, callF, preF, hasF, needs, i0, b0, toI_int, toB_bool, List.getD_cons_zero, List.getD_cons_succ, List.cons_append, List.nil_append, List.replicate, if_true, if_false, Bool.false_eq_true, and_true, true_and, implies_true, forall_const, false_implies, cmpI, Bool.not_true, Bool.not_false, Bool.true_and, Bool.false_and, Bool.and_true, Bool.and_false, reduceIte, List.append_nil, reduceCtorEq]
        clear m1 m2 k1 k2 k3 k4 k5 k6 hd w1 w2 w3 w4 w5 w6 hx1 hx2 hx1' hx2' h1 h2 ht hp
        generalize p * p - q * q = A at *
        generalize 2 * p * q = B at *
        generalize p * p + q * q = C at *
        by_cases h5 : p = 0
        · by_cases h6 : q = 0
          · exact absurd ⟨h5, h6⟩ h4
          · simp [h5, h6, l1, l2]
        · simp [h5, l1, l2]
def tr_iFracValid : Tr :=
  (.evs [.call 0 [(.var 0), (.int .i64 (-2000000000)), (.int .i64 2000000000)] none 1,
    .call 0 [(.var 1), (.int .i64 (-2000000000)), (.int .i64 2000000000)] (some (.var 3)) 1,
    .call 0 [(.var 2), (.int .i64 1), (.int .i64 2000000000)] (some (.ite (.var 3) (.var 4) (.bool false))) 1,
    .call 2 [(.var 0)] (some (.ite (.ite (.var 3) (.var 4) (.bool false)) (.var 5) (.bool false))) 1,
    .call 2 [(.var 1)] (some (.ite (.ite (.var 3) (.var 4) (.bool false)) (.var 5) (.bool false))) 1,
    .call 1 [(.var 6), (.var 7)] (some (.ite (.ite (.var 3) (.var 4) (.bool false)) (.var 5) (.bool false))) 1,
    .call 1 [(.var 8), (.var 2)] (some (.ite (.ite (.var 3) (.var 4) (.bool false)) (.var 5) (.bool false))) 1]
  (.ret [(.ite (.ite (.ite (.var 3) (.var 4) (.bool false)) (.var 5) (.bool false)) (.cmp .eql (.var 9) (.int .i64 1)) (.bool false))]))
def Fs_iFracValid : List Fun1 := [G_within, F_divisor, F_size]
def F_iFracValid : Fun1 := ofTree Fs_iFracValid tr_iFracValid
def G_iFracValid : Fun1 := ⟨fun _ => True, fun ins => [.bool (validI (i0 ins 0) (i0 ins 1) (i0 ins 2))]⟩
theorem as_iFracValid (ins : List Value) (ht : TypedL [.int .i64, .int .i64, .int .i64] ins) (_ : G_iFracValid.pre ins) : F_iFracValid.pre ins ∧ F_iFracValid.out ins = G_iFracValid.out ins := by
  obtain ⟨a, b, c, rfl, wa, wb, wc⟩ := ints3 ht
  have key : inR a = true → inR b = true → inRg c 1 2000000000 = true → mxI false a (IntKind.i64.wrap (0 - a)) = a.natAbs ∧ mxI false b (IntKind.i64.wrap (0 - b)) = b.natAbs ∧
      euc (a.natAbs : Nat) (b.natAbs : Nat) = (Nat.gcd a.natAbs b.natAbs : Nat) ∧ euc (Nat.gcd a.natAbs b.natAbs : Nat) c = (gcd3 a b c : Nat) := by
    intro ha hb hc
    simp only [inR, inRg, Bool.and_eq_true, decide_eq_true_eq] at ha hb hc
    exact ⟨size_abs (by omega), size_abs (by omega), euc_nat _ _, by rw [euc_eq (by omega) (by omega)]; rfl⟩
  have r1 : ∀ z, inRg z (-2000000000) 2000000000 = inR z := fun _ => rfl
  cases ha : inR a
  · simp only [F_iFracValid, G_iFracValid, tr_iFracValid, Fs_iFracValid, G_within, F_divisor, F_size, tr_size, Fs_size, validI, arI, r1, ha, ofTree, okT, okE, evalT, evalE, evsIn, ev, callF, preF, hasF, needs, i0, b0, toI_int, toB_bool, List.getD_cons_zero, List.getD_cons_succ, List.cons_append, List.nil_append, List.replicate, if_true, if_false, Bool.false_eq_true, and_true, true_and, implies_true, forall_const, false_implies, cmpI, Bool.not_true, Bool.not_false, Bool.true_and, Bool.false_and, Bool.and_true, Bool.and_false, reduceIte, List.append_nil, reduceCtorEq]
  · cases hb : inR b
    · simp only [F_iFracValid, G_iFracValid, tr_iFracValid, Fs_iFracValid, G_within, F_divisor, F_size, tr_size, Fs_size, validI, arI, r1, ha, hb, ofTree, okT, okE, evalT, evalE, evsIn, ev, callF, preF, hasF, needs, i0, b0, toI_int, toB_bool, List.getD_cons_zero, List.getD_cons_succ, List.cons_append, List.nil_append, List.replicate, if_true, if_false, Bool.false_eq_true, and_true, true_and, implies_true, forall_const, false_implies, cmpI, Bool.not_true, Bool.not_false, Bool.true_and, Bool.false_and, Bool.and_true, Bool.and_false, reduceIte, List.append_nil, reduceCtorEq]
    · cases hc : inRg c 1 2000000000
      · simp only [F_iFracValid, G_iFracValid, tr_iFracValid, Fs_iFracValid, G_within, F_divisor, F_size, tr_size, Fs_size, validI, arI, r1, ha, hb, hc, ofTree, okT, okE, evalT, evalE, evsIn, ev, callF, preF, hasF, needs, i0, b0, toI_int, toB_bool, List.getD_cons_zero, List.getD_cons_succ, List.cons_append, List.nil_append, List.replicate, if_true, if_false, Bool.false_eq_true, and_true, true_and, implies_true, forall_const, false_implies, cmpI, Bool.not_true, Bool.not_false, Bool.true_and, Bool.false_and, Bool.and_true, Bool.and_false, reduceIte, List.append_nil, reduceCtorEq]
      · obtain ⟨k1, k2, k3, k4⟩ := key ha hb hc
        simp only [F_iFracValid, G_iFracValid, tr_iFracValid, Fs_iFracValid, G_within, F_divisor, F_size, tr_size, Fs_size, validI, arI, r1, ha, hb, hc, k1, k2, k3, k4, ofTree, okT, okE, evalT, evalE, evsIn, ev, callF, preF, hasF, needs, i0, b0, toI_int, toB_bool, List.getD_cons_zero, List.getD_cons_succ, List.cons_append, List.nil_append, List.replicate, if_true, if_false, Bool.false_eq_true, and_true, true_and, implies_true, forall_const, false_implies, cmpI, Bool.not_true, Bool.not_false, Bool.true_and, Bool.false_and, Bool.and_true, Bool.and_false, reduceIte, List.append_nil, reduceCtorEq]
        by_cases h1 : gcd3 a b c = 1
        · simp [h1]
        · have h2 : ((gcd3 a b c : Nat) : Int) ≠ 1 := by omega
          rw [beq_eq_false_iff_ne.2 h2, beq_eq_false_iff_ne.2 h1]
def tr_iFracAdd : Tr :=
  (.evs [.call 0 [(.var 0), (.var 1), (.var 2)] none 1,
    .call 0 [(.var 3), (.var 4), (.var 5)] (some (.not (.not (.var 6)))) 1]
  (.ite (.ite (.not (.var 6)) (.bool true) (.not (.var 7)))
  (.ret [(.int .i64 0), (.int .i64 0), (.int .i64 0), (.bool false)])
  (.evs [.call 1 [(.ar .add .i64 (.ar .mul .i64 (.var 0) (.var 5)) (.ar .mul .i64 (.var 3) (.var 2))), (.ar .add .i64 (.ar .mul .i64 (.var 1) (.var 5)) (.ar .mul .i64 (.var 4) (.var 2))), (.ar .mul .i64 (.var 2) (.var 5))] none 4]
   (.ret [(.var 8), (.var 9), (.var 10), (.var 11)]))))
def Fs_iFracAdd : List Fun1 := [G_iFracValid, G_lowest]
def F_iFracAdd : Fun1 := ofTree Fs_iFracAdd tr_iFracAdd
def G_iFracAdd : Fun1 := ⟨fun _ => True, fun ins => fr4 (addQ (q3 ins 0) (q3 ins 3))⟩
theorem as_iFracAdd (ins : List Value) (ht : TypedL [.int .i64, .int .i64, .int .i64, .int .i64, .int .i64, .int .i64] ins) (_ : G_iFracAdd.pre ins) : F_iFracAdd.pre ins ∧ F_iFracAdd.out ins = G_iFracAdd.out ins := by
  obtain ⟨a, b, c, x, y, z, rfl, _⟩ := ints6 ht
  simp only [F_iFracAdd, G_iFracAdd, tr_iFracAdd, Fs_iFracAdd, G_iFracValid, G_lowest, addQ, validQ, q3, arI, ofTree, okT, okE, evalT, evalE, evsIn, ev, callF, preF, hasF, needs, i0, b0, toI_int, toB_bool, List.getD_cons_zero, List.getD_cons_succ, List.cons_append, List.nil_append, List.replicate, if_true, if_false, Bool.false_eq_true, and_true, true_and, implies_true, forall_const, false_implies, cmpI, Bool.not_true, Bool.not_false, Bool.true_and, Bool.false_and, Bool.and_true, Bool.and_false, reduceIte, List.append_nil, reduceCtorEq]
  cases h : validI a b c
  · simp [h, fr4, zq]
  · cases k : validI x y z
    · simp [h, k, fr4, zq]
    · obtain ⟨e1, e2, e3, e4, e5, e6, e7, e8, e9, l1, l2⟩ := sum_facts h k
      simp only [h, k, e1, e2, e3, e4, e5, e6, e7, ofTree, okT, okE, evalT, evalE, evsIn, ev, callF, preF, hasF, needs, i0, b0, toI_int, toB_bool, List.getD_cons_zero, List.getD_cons_succ, List.cons_append, List.nil_append, List.replicate, if_true, if_false, Bool.false_eq_true, and_true, true_and, implies_true, forall_const, false_implies, cmpI, Bool.not_true, Bool.not_false, Bool.true_and, Bool.false_and, Bool.and_true, Bool.and_false, reduceIte, List.append_nil, reduceCtorEq]
      simp [fr4, l1]
def tr_iFracTimes : Tr :=
  (.evs [.call 0 [(.var 0), (.var 1), (.var 2)] none 1,
    .call 0 [(.var 3), (.var 4), (.var 5)] (some (.not (.not (.var 6)))) 1]
  (.ite (.ite (.not (.var 6)) (.bool true) (.not (.var 7)))
  (.ret [(.int .i64 0), (.int .i64 0), (.int .i64 0), (.bool false)])
  (.evs [.call 1 [(.ar .sub .i64 (.ar .mul .i64 (.var 0) (.var 3)) (.ar .mul .i64 (.var 1) (.var 4))), (.ar .add .i64 (.ar .mul .i64 (.var 0) (.var 4)) (.ar .mul .i64 (.var 1) (.var 3))), (.ar .mul .i64 (.var 2) (.var 5))] none 4]
   (.ret [(.var 8), (.var 9), (.var 10), (.var 11)]))))
def Fs_iFracTimes : List Fun1 := [G_iFracValid, G_lowest]
def F_iFracTimes : Fun1 := ofTree Fs_iFracTimes tr_iFracTimes
def G_iFracTimes : Fun1 := ⟨fun _ => True, fun ins => fr4 (timesQ (q3 ins 0) (q3 ins 3))⟩
theorem as_iFracTimes (ins : List Value) (ht : TypedL [.int .i64, .int .i64, .int .i64, .int .i64, .int .i64, .int .i64] ins) (_ : G_iFracTimes.pre ins) : F_iFracTimes.pre ins ∧ F_iFracTimes.out ins = G_iFracTimes.out ins := by
  obtain ⟨a, b, c, x, y, z, rfl, _⟩ := ints6 ht
  simp only [F_iFracTimes, G_iFracTimes, tr_iFracTimes, Fs_iFracTimes, G_iFracValid, G_lowest, timesQ, validQ, q3, arI, ofTree, okT, okE, evalT, evalE, evsIn, ev, callF, preF, hasF, needs, i0, b0, toI_int, toB_bool, List.getD_cons_zero, List.getD_cons_succ, List.cons_append, List.nil_append, List.replicate, if_true, if_false, Bool.false_eq_true, and_true, true_and, implies_true, forall_const, false_implies, cmpI, Bool.not_true, Bool.not_false, Bool.true_and, Bool.false_and, Bool.and_true, Bool.and_false, reduceIte, List.append_nil, reduceCtorEq]
  cases h : validI a b c
  · simp [h, fr4, zq]
  · cases k : validI x y z
    · simp [h, k, fr4, zq]
    · obtain ⟨e1, e2, e3, e4, e5, e6, e7, l1⟩ := mul_facts h k
      simp only [h, k, e1, e2, e3, e4, e5, e6, e7, ofTree, okT, okE, evalT, evalE, evsIn, ev, callF, preF, hasF, needs, i0, b0, toI_int, toB_bool, List.getD_cons_zero, List.getD_cons_succ, List.cons_append, List.nil_append, List.replicate, if_true, if_false, Bool.false_eq_true, and_true, true_and, implies_true, forall_const, false_implies, cmpI, Bool.not_true, Bool.not_false, Bool.true_and, Bool.false_and, Bool.and_true, Bool.and_false, reduceIte, List.append_nil, reduceCtorEq]
      simp [fr4, l1]
def tr_keep : Tr :=
  (.ite (.not (.var 3))
  (.ret [(.int .i64 0), (.int .i64 0), (.int .i64 0), (.bool true)])
  (.ret [(.var 0), (.var 1), (.var 2), (.var 4)]))
def Fs_keep : List Fun1 := []
def F_keep : Fun1 := ofTree Fs_keep tr_keep
def tr_add : Tr :=
  (.evs [.call 0 [(.var 0), (.var 1), (.var 2), (.var 3), (.var 4), (.var 5)] none 4,
    .call 1 [(.var 7), (.var 8), (.var 9), (.var 10), (.var 6)] none 4]
  (.ret [(.var 11), (.var 12), (.var 13), (.var 14)]))
def Fs_add : List Fun1 := [G_iFracAdd, F_keep]
def F_add : Fun1 := ofTree Fs_add tr_add
def G_add : Fun1 := ⟨fun _ => True, fun ins => fr3 (addQ (q3 ins 0) (q3 ins 3)) ++ [.bool (b0 ins 6 || !(addQ (q3 ins 0) (q3 ins 3)).isSome)]⟩
theorem as_add (ins : List Value) (ht : TypedL [.int .i64, .int .i64, .int .i64, .int .i64, .int .i64, .int .i64, .bool] ins) (_ : G_add.pre ins) : F_add.pre ins ∧ F_add.out ins = G_add.out ins := by
  obtain ⟨a, r1, rfl, _, ht1⟩ := int_cons ht
  obtain ⟨b, r2, rfl, _, ht2⟩ := int_cons ht1
  obtain ⟨c, r3, rfl, _, ht3⟩ := int_cons ht2
  obtain ⟨x, r4, rfl, _, ht4⟩ := int_cons ht3
  obtain ⟨y, r5, rfl, _, ht5⟩ := int_cons ht4
  obtain ⟨z, r6, rfl, _, ht6⟩ := int_cons ht5
  obtain ⟨t, r7, rfl, ht7⟩ := bool_cons ht6
  obtain rfl := ints0 ht7
  simp only [F_add, G_add, tr_add, Fs_add, G_iFracAdd, F_keep, tr_keep, Fs_keep, q3, fr4, fr3, ofTree, okT, okE, evalT, evalE, evsIn, ev, callF, preF, hasF, needs, i0, b0, toI_int, toB_bool, List.getD_cons_zero, List.getD_cons_succ, List.cons_append, List.nil_append, List.replicate, if_true, if_false, Bool.false_eq_true, and_true, true_and, implies_true, forall_const, false_implies, cmpI, Bool.not_true, Bool.not_false, Bool.true_and, Bool.false_and, Bool.and_true, Bool.and_false, reduceIte, List.append_nil, reduceCtorEq]
  cases h : addQ (a, b, c) (x, y, z) <;> simp [zq]
def tr_times : Tr :=
  (.evs [.call 0 [(.var 0), (.var 1), (.var 2), (.var 3), (.var 4), (.var 5)] none 4,
    .call 1 [(.var 7), (.var 8), (.var 9), (.var 10), (.var 6)] none 4]
  (.ret [(.var 11), (.var 12), (.var 13), (.var 14)]))
def Fs_times : List Fun1 := [G_iFracTimes, F_keep]
def F_times : Fun1 := ofTree Fs_times tr_times
def G_times : Fun1 := ⟨fun _ => True, fun ins => fr3 (timesQ (q3 ins 0) (q3 ins 3)) ++ [.bool (b0 ins 6 || !(timesQ (q3 ins 0) (q3 ins 3)).isSome)]⟩
theorem as_times (ins : List Value) (ht : TypedL [.int .i64, .int .i64, .int .i64, .int .i64, .int .i64, .int .i64, .bool] ins) (_ : G_times.pre ins) : F_times.pre ins ∧ F_times.out ins = G_times.out ins := by
  obtain ⟨a, r1, rfl, _, ht1⟩ := int_cons ht
  obtain ⟨b, r2, rfl, _, ht2⟩ := int_cons ht1
  obtain ⟨c, r3, rfl, _, ht3⟩ := int_cons ht2
  obtain ⟨x, r4, rfl, _, ht4⟩ := int_cons ht3
  obtain ⟨y, r5, rfl, _, ht5⟩ := int_cons ht4
  obtain ⟨z, r6, rfl, _, ht6⟩ := int_cons ht5
  obtain ⟨t, r7, rfl, ht7⟩ := bool_cons ht6
  obtain rfl := ints0 ht7
  simp only [F_times, G_times, tr_times, Fs_times, G_iFracTimes, F_keep, tr_keep, Fs_keep, q3, fr4, fr3, ofTree, okT, okE, evalT, evalE, evsIn, ev, callF, preF, hasF, needs, i0, b0, toI_int, toB_bool, List.getD_cons_zero, List.getD_cons_succ, List.cons_append, List.nil_append, List.replicate, if_true, if_false, Bool.false_eq_true, and_true, true_and, implies_true, forall_const, false_implies, cmpI, Bool.not_true, Bool.not_false, Bool.true_and, Bool.false_and, Bool.and_true, Bool.and_false, reduceIte, List.append_nil, reduceCtorEq]
  cases h : timesQ (a, b, c) (x, y, z) <;> simp [zq]
def tr_need : Tr :=
  (.ite (.not (.var 0))
  (.ret [(.bool true)])
  (.ret [(.var 1)]))
def Fs_need : List Fun1 := []
def F_need : Fun1 := ofTree Fs_need tr_need
def G_need : Fun1 := ⟨fun _ => True, fun ins => [.bool (b0 ins 1 || !b0 ins 0)]⟩
theorem as_need (ins : List Value) (ht : TypedL [.bool, .bool] ins) (_ : G_need.pre ins) : F_need.pre ins ∧ F_need.out ins = G_need.out ins := by
  obtain ⟨s, r1, rfl, ht1⟩ := bool_cons ht
  obtain ⟨t, r2, rfl, ht2⟩ := bool_cons ht1
  obtain rfl := ints0 ht2
  simp only [F_need, G_need, tr_need, Fs_need, ofTree, okT, okE, evalT, evalE, evsIn, ev, callF, preF, hasF, needs, i0, b0, toI_int, toB_bool, List.getD_cons_zero, List.getD_cons_succ, List.cons_append, List.nil_append, List.replicate, if_true, if_false, Bool.false_eq_true, and_true, true_and, implies_true, forall_const, false_implies, cmpI, Bool.not_true, Bool.not_false, Bool.true_and, Bool.false_and, Bool.and_true, Bool.and_false, reduceIte, List.append_nil, reduceCtorEq]
  cases s <;> cases t <;> simp
def tr_iMatValid : Tr :=
  (.evs [.call 0 [(.var 0), (.var 1), (.var 2)] none 1]
  (.ite (.not (.var 12))
  (.ret [(.bool false)])
  (.evs [.call 0 [(.var 3), (.var 4), (.var 5)] none 1]
   (.ite (.not (.var 13))
   (.ret [(.bool false)])
   (.evs [.call 0 [(.var 6), (.var 7), (.var 8)] none 1]
    (.ite (.not (.var 14))
    (.ret [(.bool false)])
    (.evs [.call 0 [(.var 9), (.var 10), (.var 11)] none 1]
     (.ite (.not (.var 15))
     (.ret [(.bool false)])
     (.ret [(.bool true)])))))))))
def Fs_iMatValid : List Fun1 := [G_iFracValid]
def F_iMatValid : Fun1 := ofTree Fs_iMatValid tr_iMatValid
def G_iMatValid : Fun1 := ⟨fun _ => True, fun ins => [.bool (matQ fun k => q3 ins (3 * k))]⟩
theorem out_iMatValid : (fun (g : Nat → Int) => F_iMatValid.out (ivs g 0 12)) = fun g => nestC (fun k => .bool (!validQ (q3 (ivs g 0 12) (3 * k)))) 0 4 := by kernel_rfl
theorem as_iMatValid (ins : List Value) (ht : TypedL (intTs 12 ++ []) ins) (_ : G_iMatValid.pre ins) : F_iMatValid.pre ins ∧ F_iMatValid.out ins = G_iMatValid.out ins := by
  obtain ⟨g, r, rfl, h1, _⟩ := ints_lit 12 0 ht
  obtain rfl := ints0 h1
  rw [List.append_nil]
  refine ⟨okT_free (by intro F hF ins; simp only [Fs_iMatValid, List.mem_singleton] at hF; rw [hF]; trivial) _ _ (by kernel_rfl), (congrFun out_iMatValid g).trans ?_⟩
  exact nestC_eq (fun k => rfl) 4 0
def tr_iFracMirror : Tr :=
  (.evs [.call 0 [(.var 0), (.var 1), (.var 2)] none 1]
  (.ite (.not (.var 3))
  (.ret [(.int .i64 0), (.int .i64 0), (.int .i64 0), (.bool false)])
  (.ret [(.var 0), (.ar .sub .i64 (.int .i64 0) (.var 1)), (.var 2), (.bool true)])))
def Fs_iFracMirror : List Fun1 := [G_iFracValid]
def F_iFracMirror : Fun1 := ofTree Fs_iFracMirror tr_iFracMirror
def G_iFracMirror : Fun1 := ⟨fun _ => True, fun ins => fr4 (mirQ (q3 ins 0))⟩
theorem as_iFracMirror (ins : List Value) (ht : TypedL [.int .i64, .int .i64, .int .i64] ins) (_ : G_iFracMirror.pre ins) : F_iFracMirror.pre ins ∧ F_iFracMirror.out ins = G_iFracMirror.out ins := by
  obtain ⟨a, b, c, rfl, _⟩ := ints3 ht
  simp only [F_iFracMirror, G_iFracMirror, tr_iFracMirror, Fs_iFracMirror, G_iFracValid, mirQ, validQ, q3, arI, ofTree, okT, okE, evalT, evalE, evsIn, ev, callF, preF, hasF, needs, i0, b0, toI_int, toB_bool, List.getD_cons_zero, List.getD_cons_succ, List.cons_append, List.nil_append, List.replicate, if_true, if_false, Bool.false_eq_true, and_true, true_and, implies_true, forall_const, false_implies, cmpI, Bool.not_true, Bool.not_false, Bool.true_and, Bool.false_and, Bool.and_true, Bool.and_false, reduceIte, List.append_nil, reduceCtorEq]
  cases h : validI a b c
  · simp [fr4, zq]
  · obtain ⟨b1, b2, b3⟩ := valid_bounds h
    have e : IntKind.i64.wrap (-b) = -b := wrap_in (by omega)
    simp [fr4, e]
def tr_mirror : Tr :=
  (.evs [.call 0 [(.var 0), (.var 1), (.var 2)] none 4,
    .call 1 [(.var 4), (.var 5), (.var 6), (.var 7), (.var 3)] none 4]
  (.ret [(.var 8), (.var 9), (.var 10), (.var 11)]))
def Fs_mirror : List Fun1 := [G_iFracMirror, F_keep]
def F_mirror : Fun1 := ofTree Fs_mirror tr_mirror
def G_mirror : Fun1 := ⟨fun _ => True, fun ins => fr3 (mirQ (q3 ins 0)) ++ [.bool (b0 ins 3 || !(mirQ (q3 ins 0)).isSome)]⟩
theorem as_mirror (ins : List Value) (ht : TypedL [.int .i64, .int .i64, .int .i64, .bool] ins) (_ : G_mirror.pre ins) : F_mirror.pre ins ∧ F_mirror.out ins = G_mirror.out ins := by
  obtain ⟨a, r1, rfl, _, ht1⟩ := int_cons ht
  obtain ⟨b, r2, rfl, _, ht2⟩ := int_cons ht1
  obtain ⟨c, r3, rfl, _, ht3⟩ := int_cons ht2
  obtain ⟨t, r7, rfl, ht7⟩ := bool_cons ht3
  obtain rfl := ints0 ht7
  simp only [F_mirror, G_mirror, tr_mirror, Fs_mirror, G_iFracMirror, F_keep, tr_keep, Fs_keep, q3, fr4, fr3, ofTree, okT, okE, evalT, evalE, evsIn, ev, callF, preF, hasF, needs, i0, b0, toI_int, toB_bool, List.getD_cons_zero, List.getD_cons_succ, List.cons_append, List.nil_append, List.replicate, if_true, if_false, Bool.false_eq_true, and_true, true_and, implies_true, forall_const, false_implies, cmpI, Bool.not_true, Bool.not_false, Bool.true_and, Bool.false_and, Bool.and_true, Bool.and_false, reduceIte, List.append_nil, reduceCtorEq]
  cases h : mirQ (a, b, c) <;> simp [zq]
def tr_mcell00 : Tr :=
  (.evs [.call 0 [(.var 0), (.var 1), (.var 2), (.var 12), (.var 13), (.var 14), (.var 24)] none 4,
    .call 0 [(.var 3), (.var 4), (.var 5), (.var 18), (.var 19), (.var 20), (.var 28)] none 4,
    .call 1 [(.var 25), (.var 26), (.var 27), (.var 29), (.var 30), (.var 31), (.var 32)] none 4]
  (.ret [(.var 33), (.var 34), (.var 35), (.var 0), (.var 1), (.var 2), (.var 3), (.var 4), (.var 5), (.var 6), (.var 7), (.var 8), (.var 9), (.var 10), (.var 11), (.var 12), (.var 13), (.var 14), (.var 15), (.var 16), (.var 17), (.var 18), (.var 19), (.var 20), (.var 21), (.var 22), (.var 23), (.var 36)]))
def Fs_mcell00 : List Fun1 := [G_times, G_add]
def F_mcell00 : Fun1 := ofTree Fs_mcell00 tr_mcell00
def G_mcell00 : Fun1 := ⟨fun _ => True, fun ins => fl3 [(mixI (b0 ins 24) (q3 ins 0) (q3 ins 12) (q3 ins 3) (q3 ins 18)).1] ++ (copyV ins 0 24 ++ [.bool (mixI (b0 ins 24) (q3 ins 0) (q3 ins 12) (q3 ins 3) (q3 ins 18)).2])⟩
theorem out_mcell00 : (fun (g : Nat → Int) (s : Bool) => F_mcell00.out (ivs g 0 24 ++ [.bool s])) = fun g s => G_mcell00.out (ivs g 0 24 ++ [.bool s]) := by kernel_rfl
theorem as_mcell00 (ins : List Value) (ht : TypedL (intTs 24 ++ [.bool]) ins) (_ : G_mcell00.pre ins) : F_mcell00.pre ins ∧ F_mcell00.out ins = G_mcell00.out ins := by
  obtain ⟨g, r, rfl, h1, _⟩ := ints_lit 24 0 ht
  obtain ⟨s, r2, rfl, h2⟩ := bool_cons h1
  obtain rfl := ints0 h2
  exact ⟨okT_free (by intro F hF ins; simp only [Fs_mcell00, List.mem_cons, List.not_mem_nil, or_false] at hF; rcases hF with rfl | rfl <;> trivial) _ _ (by kernel_rfl), congrFun (congrFun out_mcell00 g) s⟩
def tr_mcell01 : Tr :=
  (.evs [.call 0 [(.var 0), (.var 1), (.var 2), (.var 15), (.var 16), (.var 17), (.var 24)] none 4,
    .call 0 [(.var 3), (.var 4), (.var 5), (.var 21), (.var 22), (.var 23), (.var 28)] none 4,
    .call 1 [(.var 25), (.var 26), (.var 27), (.var 29), (.var 30), (.var 31), (.var 32)] none 4]
  (.ret [(.var 33), (.var 34), (.var 35), (.var 0), (.var 1), (.var 2), (.var 3), (.var 4), (.var 5), (.var 6), (.var 7), (.var 8), (.var 9), (.var 10), (.var 11), (.var 12), (.var 13), (.var 14), (.var 15), (.var 16), (.var 17), (.var 18), (.var 19), (.var 20), (.var 21), (.var 22), (.var 23), (.var 36)]))
def Fs_mcell01 : List Fun1 := [G_times, G_add]
def F_mcell01 : Fun1 := ofTree Fs_mcell01 tr_mcell01
def G_mcell01 : Fun1 := ⟨fun _ => True, fun ins => fl3 [(mixI (b0 ins 24) (q3 ins 0) (q3 ins 15) (q3 ins 3) (q3 ins 21)).1] ++ (copyV ins 0 24 ++ [.bool (mixI (b0 ins 24) (q3 ins 0) (q3 ins 15) (q3 ins 3) (q3 ins 21)).2])⟩
theorem out_mcell01 : (fun (g : Nat → Int) (s : Bool) => F_mcell01.out (ivs g 0 24 ++ [.bool s])) = fun g s => G_mcell01.out (ivs g 0 24 ++ [.bool s]) := by kernel_rfl
theorem as_mcell01 (ins : List Value) (ht : TypedL (intTs 24 ++ [.bool]) ins) (_ : G_mcell01.pre ins) : F_mcell01.pre ins ∧ F_mcell01.out ins = G_mcell01.out ins := by
  obtain ⟨g, r, rfl, h1, _⟩ := ints_lit 24 0 ht
  obtain ⟨s, r2, rfl, h2⟩ := bool_cons h1
  obtain rfl := ints0 h2
  exact ⟨okT_free (by intro F hF ins; simp only [Fs_mcell01, List.mem_cons, List.not_mem_nil, or_false] at hF; rcases hF with rfl | rfl <;> trivial) _ _ (by kernel_rfl), congrFun (congrFun out_mcell01 g) s⟩
def tr_mcell10 : Tr :=
  (.evs [.call 0 [(.var 6), (.var 7), (.var 8), (.var 12), (.var 13), (.var 14), (.var 24)] none 4,
    .call 0 [(.var 9), (.var 10), (.var 11), (.var 18), (.var 19), (.var 20), (.var 28)] none 4,
    .call 1 [(.var 25), (.var 26), (.var 27), (.var 29), (.var 30), (.var 31), (.var 32)] none 4]
  (.ret [(.var 33), (.var 34), (.var 35), (.var 0), (.var 1), (.var 2), (.var 3), (.var 4), (.var 5), (.var 6), (.var 7), (.var 8), (.var 9), (.var 10), (.var 11), (.var 12), (.var 13), (.var 14), (.var 15), (.var 16), (.var 17), (.var 18), (.var 19), (.var 20), (.var 21), (.var 22), (.var 23), (.var 36)]))
def Fs_mcell10 : List Fun1 := [G_times, G_add]
def F_mcell10 : Fun1 := ofTree Fs_mcell10 tr_mcell10
def G_mcell10 : Fun1 := ⟨fun _ => True, fun ins => fl3 [(mixI (b0 ins 24) (q3 ins 6) (q3 ins 12) (q3 ins 9) (q3 ins 18)).1] ++ (copyV ins 0 24 ++ [.bool (mixI (b0 ins 24) (q3 ins 6) (q3 ins 12) (q3 ins 9) (q3 ins 18)).2])⟩
theorem out_mcell10 : (fun (g : Nat → Int) (s : Bool) => F_mcell10.out (ivs g 0 24 ++ [.bool s])) = fun g s => G_mcell10.out (ivs g 0 24 ++ [.bool s]) := by kernel_rfl
theorem as_mcell10 (ins : List Value) (ht : TypedL (intTs 24 ++ [.bool]) ins) (_ : G_mcell10.pre ins) : F_mcell10.pre ins ∧ F_mcell10.out ins = G_mcell10.out ins := by
  obtain ⟨g, r, rfl, h1, _⟩ := ints_lit 24 0 ht
  obtain ⟨s, r2, rfl, h2⟩ := bool_cons h1
  obtain rfl := ints0 h2
  exact ⟨okT_free (by intro F hF ins; simp only [Fs_mcell10, List.mem_cons, List.not_mem_nil, or_false] at hF; rcases hF with rfl | rfl <;> trivial) _ _ (by kernel_rfl), congrFun (congrFun out_mcell10 g) s⟩
def tr_mcell11 : Tr :=
  (.evs [.call 0 [(.var 6), (.var 7), (.var 8), (.var 15), (.var 16), (.var 17), (.var 24)] none 4,
    .call 0 [(.var 9), (.var 10), (.var 11), (.var 21), (.var 22), (.var 23), (.var 28)] none 4,
    .call 1 [(.var 25), (.var 26), (.var 27), (.var 29), (.var 30), (.var 31), (.var 32)] none 4]
  (.ret [(.var 33), (.var 34), (.var 35), (.var 0), (.var 1), (.var 2), (.var 3), (.var 4), (.var 5), (.var 6), (.var 7), (.var 8), (.var 9), (.var 10), (.var 11), (.var 12), (.var 13), (.var 14), (.var 15), (.var 16), (.var 17), (.var 18), (.var 19), (.var 20), (.var 21), (.var 22), (.var 23), (.var 36)]))
def Fs_mcell11 : List Fun1 := [G_times, G_add]
def F_mcell11 : Fun1 := ofTree Fs_mcell11 tr_mcell11
def G_mcell11 : Fun1 := ⟨fun _ => True, fun ins => fl3 [(mixI (b0 ins 24) (q3 ins 6) (q3 ins 15) (q3 ins 9) (q3 ins 21)).1] ++ (copyV ins 0 24 ++ [.bool (mixI (b0 ins 24) (q3 ins 6) (q3 ins 15) (q3 ins 9) (q3 ins 21)).2])⟩
theorem out_mcell11 : (fun (g : Nat → Int) (s : Bool) => F_mcell11.out (ivs g 0 24 ++ [.bool s])) = fun g s => G_mcell11.out (ivs g 0 24 ++ [.bool s]) := by kernel_rfl
theorem as_mcell11 (ins : List Value) (ht : TypedL (intTs 24 ++ [.bool]) ins) (_ : G_mcell11.pre ins) : F_mcell11.pre ins ∧ F_mcell11.out ins = G_mcell11.out ins := by
  obtain ⟨g, r, rfl, h1, _⟩ := ints_lit 24 0 ht
  obtain ⟨s, r2, rfl, h2⟩ := bool_cons h1
  obtain rfl := ints0 h2
  exact ⟨okT_free (by intro F hF ins; simp only [Fs_mcell11, List.mem_cons, List.not_mem_nil, or_false] at hF; rcases hF with rfl | rfl <;> trivial) _ _ (by kernel_rfl), congrFun (congrFun out_mcell11 g) s⟩
def tr_gotMat : Tr :=
  (.ite (.var 12)
  (.ret [(.int .i64 0), (.int .i64 0), (.int .i64 0), (.int .i64 0), (.int .i64 0), (.int .i64 0), (.int .i64 0), (.int .i64 0), (.int .i64 0), (.int .i64 0), (.int .i64 0), (.int .i64 0), (.bool false), (.var 12)])
  (.ret [(.var 0), (.var 1), (.var 2), (.var 3), (.var 4), (.var 5), (.var 6), (.var 7), (.var 8), (.var 9), (.var 10), (.var 11), (.bool true), (.var 12)]))
def Fs_gotMat : List Fun1 := []
def F_gotMat : Fun1 := ofTree Fs_gotMat tr_gotMat
def G_gotMat : Fun1 := ⟨fun _ => True, fun ins => gotV (b0 ins 12) ins 0 12 ++ [.bool (!b0 ins 12), .bool (b0 ins 12)]⟩
theorem out_gotMat : (fun (g : Nat → Int) => F_gotMat.out (ivs g 0 12 ++ [.bool true])) = fun g => G_gotMat.out (ivs g 0 12 ++ [.bool true]) := by kernel_rfl
theorem out_gotMat' : (fun (g : Nat → Int) => F_gotMat.out (ivs g 0 12 ++ [.bool false])) = fun g => G_gotMat.out (ivs g 0 12 ++ [.bool false]) := by kernel_rfl
theorem as_gotMat (ins : List Value) (ht : TypedL (intTs 12 ++ [.bool]) ins) (_ : G_gotMat.pre ins) : F_gotMat.pre ins ∧ F_gotMat.out ins = G_gotMat.out ins := by
  obtain ⟨g, r, rfl, h1, _⟩ := ints_lit 12 0 ht
  obtain ⟨b, r2, rfl, h2⟩ := bool_cons h1
  obtain rfl := ints0 h2
  cases b
  · exact ⟨trivial, congrFun out_gotMat' g⟩
  · exact ⟨trivial, congrFun out_gotMat g⟩
def tr_iMatTimes : Tr :=
  (.evs [.call 0 [(.var 0), (.var 1), (.var 2), (.var 3), (.var 4), (.var 5), (.var 6), (.var 7), (.var 8), (.var 9), (.var 10), (.var 11)] none 1,
    .call 0 [(.var 12), (.var 13), (.var 14), (.var 15), (.var 16), (.var 17), (.var 18), (.var 19), (.var 20), (.var 21), (.var 22), (.var 23)] (some (.var 24)) 1,
    .call 1 [(.ite (.var 24) (.var 25) (.bool false)), (.bool false)] none 1]
  (.evs [.call 2 [(.var 0), (.var 1), (.var 2), (.var 3), (.var 4), (.var 5), (.var 6), (.var 7), (.var 8), (.var 9), (.var 10), (.var 11), (.var 12), (.var 13), (.var 14), (.var 15), (.var 16), (.var 17), (.var 18), (.var 19), (.var 20), (.var 21), (.var 22), (.var 23), (.var 26)] none 28,
    .call 3 [(.var 30), (.var 31), (.var 32), (.var 33), (.var 34), (.var 35), (.var 36), (.var 37), (.var 38), (.var 39), (.var 40), (.var 41), (.var 42), (.var 43), (.var 44), (.var 45), (.var 46), (.var 47), (.var 48), (.var 49), (.var 50), (.var 51), (.var 52), (.var 53), (.var 54)] none 28,
    .call 4 [(.var 58), (.var 59), (.var 60), (.var 61), (.var 62), (.var 63), (.var 64), (.var 65), (.var 66), (.var 67), (.var 68), (.var 69), (.var 70), (.var 71), (.var 72), (.var 73), (.var 74), (.var 75), (.var 76), (.var 77), (.var 78), (.var 79), (.var 80), (.var 81), (.var 82)] none 28,
    .call 5 [(.var 86), (.var 87), (.var 88), (.var 89), (.var 90), (.var 91), (.var 92), (.var 93), (.var 94), (.var 95), (.var 96), (.var 97), (.var 98), (.var 99), (.var 100), (.var 101), (.var 102), (.var 103), (.var 104), (.var 105), (.var 106), (.var 107), (.var 108), (.var 109), (.var 110)] none 28,
    .call 6 [(.var 27), (.var 28), (.var 29), (.var 55), (.var 56), (.var 57), (.var 83), (.var 84), (.var 85), (.var 111), (.var 112), (.var 113), (.var 138)] none 14]
  (.ret [(.var 139), (.var 140), (.var 141), (.var 142), (.var 143), (.var 144), (.var 145), (.var 146), (.var 147), (.var 148), (.var 149), (.var 150), (.var 151)])))
def Fs_iMatTimes : List Fun1 := [G_iMatValid, G_need, G_mcell00, G_mcell01, G_mcell10, G_mcell11, G_gotMat]
def F_iMatTimes : Fun1 := ofTree Fs_iMatTimes tr_iMatTimes
def G_iMatTimes : Fun1 := ⟨fun _ => True, fun ins => nttW 4 (matQ (fun k => q3 ins (3 * k)) && matQ (fun k => q3 ins (12 + 3 * k))) (mulM (fun k => q3 ins (3 * k)) (fun k => q3 ins (12 + 3 * k)))⟩
theorem out_iMatTimes : (fun (g : Nat → Int) => evalT' Fs_iMatTimes tr_iMatTimes (ivs g 0 24)) = fun g =>
    gotL (mtI (fun k => q3 (ivs g 0 24) (3 * k)) (fun k => q3 (ivs g 0 24) (12 + 3 * k))).2 (mtI (fun k => q3 (ivs g 0 24) (3 * k)) (fun k => q3 (ivs g 0 24) (12 + 3 * k))).1 ++ [.bool (!(mtI (fun k => q3 (ivs g 0 24) (3 * k)) (fun k => q3 (ivs g 0 24) (12 + 3 * k))).2)] := by kernel_rfl
theorem as_iMatTimes (ins : List Value) (ht : TypedL (intTs 24 ++ []) ins) (_ : G_iMatTimes.pre ins) : F_iMatTimes.pre ins ∧ F_iMatTimes.out ins = G_iMatTimes.out ins := by
  obtain ⟨g, r, rfl, h1, _⟩ := ints_lit 24 0 ht
  obtain rfl := ints0 h1
  rw [List.append_nil]
  refine ⟨okT_free (by intro F hF ins; simp only [Fs_iMatTimes, List.mem_cons, List.not_mem_nil, or_false] at hF; rcases hF with rfl | rfl | rfl | rfl | rfl | rfl | rfl <;> trivial) _ _ (by kernel_rfl), (evalT_sel (lens := [1]) (Lens.cons (fun _ => rfl) Lens.nil) _ _ (by kernel_rfl)).trans ((congrFun out_iMatTimes g).trans ?_)⟩
  exact (mtI_eq _ _).trans (nttV_eq _ _ _)
def tr_pick : Tr :=
  (.ite (.ite (.cmp .lss (.var 0) (.int .i64 1)) (.bool true) (.cmp .eql (.len (.var 1)) (.int .i64 0)))
  (.ret [(.int .i64 0), (.var 1), (.ar .add .i64 (.var 2) (.int .i64 1))])
  (.ite (.cmp .lss (.ar .sub .i64 (.ar .add .i64 (.var 2) (.int .i64 1)) (.int .i64 1)) (.len (.var 1)))
   (.evs [.need [(.inb (.var 3) (.ar .sub .i64 (.ar .add .i64 (.var 2) (.int .i64 1)) (.int .i64 1)) 1)],
      .need [(.cmp .neq (.var 0) (.int .i64 0))]]
    (.ret [(.ar .rem .i64 (.conv .i64 (.sel (.var 3) (.ar .sub .i64 (.ar .add .i64 (.var 2) (.int .i64 1)) (.int .i64 1)) 1 0)) (.var 0)), (.var 1), (.ar .add .i64 (.var 2) (.int .i64 1))]))
   (.evs [.need [(.cmp .neq (.len (.var 1)) (.int .i64 0)), (.inb (.var 3) (.ar .rem .i64 (.ar .sub .i64 (.ar .add .i64 (.var 2) (.int .i64 1)) (.int .i64 1)) (.len (.var 1))) 1), (.cmp .neq (.len (.var 1)) (.int .i64 0)), (.inb (.var 3) (.ar .rem .i64 (.ar .add .i64 (.ar .mul .i64 (.ar .sub .i64 (.ar .add .i64 (.var 2) (.int .i64 1)) (.int .i64 1)) (.int .i64 7)) (.int .i64 3)) (.len (.var 1))) 1), (.cmp .neq (.len (.var 1)) (.int .i64 0))],
      .need [(.cmp .neq (.len (.var 1)) (.int .i64 0)), (.inb (.var 3) (.ar .rem .i64 (.ar .sub .i64 (.ar .add .i64 (.var 2) (.int .i64 1)) (.int .i64 1)) (.len (.var 1))) 1), (.cmp .neq (.len (.var 1)) (.int .i64 0)), (.inb (.var 3) (.ar .rem .i64 (.ar .add .i64 (.ar .mul .i64 (.ar .sub .i64 (.ar .add .i64 (.var 2) (.int .i64 1)) (.int .i64 1)) (.int .i64 7)) (.int .i64 3)) (.len (.var 1))) 1), (.cmp .neq (.len (.var 1)) (.int .i64 0))]]
    (.evs [.need [(.bool true)]]
    (.evs [.need [(.cmp .neq (.var 0) (.int .i64 0))]]
    (.ret [(.ar .rem .i64 (.ar .xor .i64 (.ar .add .i64 (.ar .add .i64 (.ar .add .i64 (.ar .mul .i64 (.conv .i64 (.sel (.var 3) (.ar .rem .i64 (.ar .sub .i64 (.ar .add .i64 (.var 2) (.int .i64 1)) (.int .i64 1)) (.len (.var 1))) 1 0)) (.int .i64 131)) (.ar .mul .i64 (.conv .i64 (.sel (.var 3) (.ar .rem .i64 (.ar .add .i64 (.ar .mul .i64 (.ar .sub .i64 (.ar .add .i64 (.var 2) (.int .i64 1)) (.int .i64 1)) (.int .i64 7)) (.int .i64 3)) (.len (.var 1))) 1 0)) (.int .i64 1117))) (.ar .mul .i64 (.ar .sub .i64 (.ar .add .i64 (.var 2) (.int .i64 1)) (.int .i64 1)) (.int .i64 29))) (.ar .mul .i64 (.ar .quo .i64 (.ar .sub .i64 (.ar .add .i64 (.var 2) (.int .i64 1)) (.int .i64 1)) (.len (.var 1))) (.int .i64 53))) (.ar .quo .i64 (.ar .add .i64 (.ar .add .i64 (.ar .add .i64 (.ar .mul .i64 (.conv .i64 (.sel (.var 3) (.ar .rem .i64 (.ar .sub .i64 (.ar .add .i64 (.var 2) (.int .i64 1)) (.int .i64 1)) (.len (.var 1))) 1 0)) (.int .i64 131)) (.ar .mul .i64 (.conv .i64 (.sel (.var 3) (.ar .rem .i64 (.ar .add .i64 (.ar .mul .i64 (.ar .sub .i64 (.ar .add .i64 (.var 2) (.int .i64 1)) (.int .i64 1)) (.int .i64 7)) (.int .i64 3)) (.len (.var 1))) 1 0)) (.int .i64 1117))) (.ar .mul .i64 (.ar .sub .i64 (.ar .add .i64 (.var 2) (.int .i64 1)) (.int .i64 1)) (.int .i64 29))) (.ar .mul .i64 (.ar .quo .i64 (.ar .sub .i64 (.ar .add .i64 (.var 2) (.int .i64 1)) (.int .i64 1)) (.len (.var 1))) (.int .i64 53))) (.int .i64 64))) (.var 0)), (.var 1), (.ar .add .i64 (.var 2) (.int .i64 1))]))))))
def Fs_pick : List Fun1 := []
def F_pick : Fun1 := ofTree Fs_pick tr_pick
theorem pick_tree {arr : Array Value} {b : Value} {n p L : Int} (hL : lenV b = L) (hs : L = (arr.size : Int)) (hL2 : L ≤ 9223372036854775807) (hn : I64 n) (hp : 0 ≤ p ∧ p ≤ 1000000000) (hb : ∀ i : Nat, 0 ≤ toI (arr.getD i undef) ∧ toI (arr.getD i undef) ≤ 255) :
    okT [] tr_pick [.int .i64 n, b, .int .i64 p, .agg arr] ∧ ∃ x, evalT [] tr_pick [.int .i64 n, b, .int .i64 p, .agg arr] = [.int .i64 x, b, .int .i64 (p + 1)] ∧ 0 ≤ x ∧ x ≤ max 0 (n - 1) := by
  have w1 : IntKind.i64.wrap (p + 1) = p + 1 := wrap_in (by omega)
  have w2 : IntKind.i64.wrap (p + 1 - 1) = p := by rw [show p + 1 - 1 = p by omega]; exact wrap_in (by omega)
  have wb : ∀ i : Nat, IntKind.i64.wrap (toI (arr.getD i undef)) = toI (arr.getD i undef) := fun i => wrap_in (by have := hb i; omega)
  unfold tr_pick
  simp only [okT, evalT, okE, evalE, needs, evsIn, ev, cmpI, arI, toI_int, List.getD_cons_zero, List.getD_cons_succ, w1, w2, hL, toB_bool, Value.cells, Nat.mul_one, Nat.add_zero, wb]
  by_cases c1 : n < 1
  · simp only [c1, decide_true, if_true, toB_bool]
    exact ⟨trivial, 0, rfl, by omega, by omega⟩
  by_cases c2 : L = 0
  · simp only [c1, c2, decide_false, Bool.false_eq_true, if_false, toB_bool, beq_self_eq_true, if_true]
    exact ⟨trivial, 0, rfl, by omega, by omega⟩
  have c3 : (L == 0) = false := by simp [c2]
  simp only [c1, c3, decide_false, Bool.false_eq_true, if_false, toB_bool]
  have n0 : (n != 0) = true := by simp; omega
  by_cases c4 : p < L
  · simp only [c4, decide_true, if_true]
    have h1 := hb p.toNat
    obtain ⟨r1, r2⟩ := tmod_rng (n := n) h1.1 (by omega)
    refine ⟨⟨⟨⟨by rw [Value.bool.injEq, decide_eq_true_eq]; omega, trivial⟩, ⟨by rw [n0], trivial⟩, trivial⟩, trivial⟩, _, rfl, r1, by omega⟩
  · simp only [c4, decide_false, Bool.false_eq_true, if_false]
    have w3 : IntKind.i64.wrap (p * 7) = p * 7 := wrap_in (by omega)
    have w4 : IntKind.i64.wrap (p * 7 + 3) = p * 7 + 3 := wrap_in (by omega)
    obtain ⟨a1, a2⟩ := tmod_rng (x := p) (n := L) (by omega) (by omega)
    obtain ⟨b1, b2⟩ := tmod_rng (x := p * 7 + 3) (n := L) (by omega) (by omega)
    obtain ⟨d1, d2⟩ := tdiv_range (x := p) (n := L) (by omega) (by omega)
    simp only [w3, w4]
    have y1 := hb (p.tmod L).toNat
    have y2 := hb ((p * 7 + 3).tmod L).toNat
    generalize toI (arr.getD (p.tmod L).toNat undef) = u at y1 ⊢
    generalize toI (arr.getD ((p * 7 + 3).tmod L).toNat undef) = v at y2 ⊢
    generalize p.tdiv L = z at d1 d2 ⊢
    rw [wrap_in (z := u * 131) (by omega), wrap_in (z := v * 1117) (by omega), wrap_in (z := p * 29) (by omega), wrap_in (z := z) (by omega), wrap_in (z := z * 53) (by omega),
      wrap_in (z := u * 131 + v * 1117) (by omega), wrap_in (z := u * 131 + v * 1117 + p * 29) (by omega), wrap_in (z := u * 131 + v * 1117 + p * 29 + z * 53) (by omega)]
    have hx : 0 ≤ u * 131 + v * 1117 + p * 29 + z * 53 ∧ u * 131 + v * 1117 + p * 29 + z * 53 ≤ 4611686018427387903 := by omega
    generalize u * 131 + v * 1117 + p * 29 + z * 53 = X at hx ⊢
    obtain ⟨t1, t2⟩ := tdiv_range (x := X) (n := 64) hx.1 (by omega)
    rw [wrap_in (z := X.tdiv 64) (by omega)]
    have hxr := xor_nonneg hx (y := X.tdiv 64) (by omega)
    obtain ⟨r1, r2⟩ := tmod_rng (n := n) hxr.1 (by omega)
    have L0 : (L != 0) = true := by simp [c2]
    refine ⟨⟨⟨⟨by rw [L0], by rw [Value.bool.injEq, decide_eq_true_eq]; omega, by rw [L0], by rw [Value.bool.injEq, decide_eq_true_eq]; omega, by rw [L0], trivial⟩, ⟨by rw [L0], by rw [Value.bool.injEq, decide_eq_true_eq]; omega, by rw [L0], by rw [Value.bool.injEq, decide_eq_true_eq]; omega, by rw [L0], trivial⟩, trivial⟩, ⟨⟨trivial, trivial⟩, trivial⟩, ⟨⟨by rw [n0], trivial⟩, trivial⟩, trivial⟩, _, rfl, r1, by omega⟩
def G_pick (cb : CodeB) : Fun1 := ⟨fun ins => goodSl cb (ins.getD 1 undef) ∧ (∃ n, ins.getD 0 undef = .int .i64 n ∧ I64 n) ∧ ∃ p, ins.getD 2 undef = .int .i64 p ∧ 0 ≤ p ∧ p ≤ 1000000000, fun ins => F_pick.out [ins.getD 0 undef, ins.getD 1 undef, ins.getD 2 undef, rowU cb (ins.getD 1 undef)]⟩
theorem pick_facts {cb : CodeB} (hk : CodeOk cb) {n p : Int} {b : Value} (hb : goodSl cb b) (hn : I64 n) (hp : 0 ≤ p ∧ p ≤ 1000000000) :
    F_pick.pre [.int .i64 n, b, .int .i64 p, rowU cb b] ∧ ∃ x, F_pick.out [.int .i64 n, b, .int .i64 p, rowU cb b] = [.int .i64 x, b, .int .i64 (p + 1)] ∧ 0 ≤ x ∧ x ≤ max 0 (n - 1) := by
  obtain ⟨a, len, cap, arr, hv, hr, hsz, hlen, harr⟩ := goodSl_row hk hb
  rw [hr]
  exact pick_tree (L := len) (by rw [hv]; rfl) (by omega) (by omega) hn hp (row_byte harr)
theorem ghost_pick {cb : CodeB} (hk : CodeOk cb) (n b p : Value) (ht : TypedL [.int .i64, .sl, .int .i64] [n, b, p]) (h : (G_pick cb).pre [n, b, p]) : goodSl cb b ∧ F_pick.pre [n, b, p, rowU cb b] ∧ F_pick.out [n, b, p, rowU cb b] = (G_pick cb).out [n, b, p] := by
  obtain ⟨h1, ⟨n, hn, hn'⟩, p, hp, hp'⟩ := h
  have hn : _ = Value.int .i64 n := hn
  have hp : _ = Value.int .i64 p := hp
  simp only [List.getD_cons_zero, List.getD_cons_succ] at hn hp h1
  subst hn hp
  exact ⟨h1, (pick_facts hk h1 hn' hp').1, rfl⟩
theorem aok_pick {cb : CodeB} (hk : CodeOk cb) : AOK cb (G_pick cb) aPick := by
  intro I O h ins hi
  match I, ins, hi, h with
  | [.itv lo hi', .good, .itv a b], [n, s, p], ⟨⟨n', hn, n1, n2⟩, hs, ⟨p', hp, p1, p2⟩, _⟩, h =>
    simp only [aPick] at h
    split at h
    · rename_i hc
      cases h
      simp only [Bool.and_eq_true, decide_eq_true_eq] at hc
      subst hn hp
      have hn64 : I64 n' := by unfold I64; omega
      have hpp : 0 ≤ p' ∧ p' ≤ 1000000000 := by omega
      obtain ⟨q1, x, q2, q3, q4⟩ := pick_facts hk hs hn64 hpp
      refine ⟨⟨hs, ⟨n', rfl, hn64⟩, p', rfl, hpp⟩, ?_⟩
      have e : (G_pick cb).out [.int .i64 n', s, .int .i64 p'] = [.int .i64 x, s, .int .i64 (p' + 1)] := q2
      rw [e]
      exact ⟨⟨x, rfl, q3, by omega⟩, hs, ⟨p' + 1, rfl, by omega, by omega⟩, trivial⟩
    · cases h
abbrev F_pickC := G_pick
abbrev A_pickC := aPick
theorem aok_pickC {cb : CodeB} (hk : CodeOk cb) : AOK cb (G_pick cb) aPick := aok_pick hk
abbrev F_openC := G_open
def tr_l91Direction : Tr :=
  (.evs [.call 0 [(.int .i64 7), (.var 0), (.var 1)] none 3]
  (.evs [.call 0 [(.int .i64 7), (.var 3), (.var 4)] none 3]
  (.evs [.call 0 [(.int .i64 30), (.var 6), (.var 7)] none 3]
  (.ite (.cmp .eql (.var 8) (.int .i64 0))
  (.ret [(.int .i64 101), (.ar .sub .i64 (.var 5) (.int .i64 3)), (.var 9), (.var 10)])
  (.ret [(.ar .sub .i64 (.var 2) (.int .i64 3)), (.ar .sub .i64 (.var 5) (.int .i64 3)), (.var 9), (.var 10)])))))
def Fs_l91Direction (cb : CodeB) : List Fun1 := [(F_pickC cb)]
def F_l91Direction (cb : CodeB) : Fun1 := ofTree (Fs_l91Direction cb) tr_l91Direction
def A_l91Direction : AF := absT [A_pickC] tr_l91Direction
theorem aok_l91Direction {cb : CodeB} (hk : CodeOk cb) : AOK cb (F_l91Direction cb) A_l91Direction := tree_aok (AOKs.cons (aok_pickC hk) AOKs.nil) tr_l91Direction
def SP_Split : Spec := SP_split
def SP_Join : Spec := SP_join
def SP_Itoa : Spec := SP_itoa
def SP_plainNumber : Spec := SP_num num
def SP_l6Dec : Spec := SP_itoa
def tr_l7Cut : Tr :=
  (.evs [.app (.val (.agg #[])) 1 (.cells [])]
  (.lp 0 [(.int .i64 0), (.int .i64 0), (.var 2), (.val (.agg #[]))] [.int .i64, .int .i64, .sl, .rowC [.str]]
  (.ite (.cmp .leq (.var 4) (.len (.var 0)))
   (.evs [.need [(.ite (.not (.cmp .eql (.var 4) (.len (.var 0)))) (.cmp .leq (.int .i64 0) (.var 4)) (.bool true)), (.ite (.not (.cmp .eql (.var 4) (.len (.var 0)))) (.cmp .lss (.var 4) (.len (.var 0))) (.bool true))]]
    (.ite (.ite (.cmp .eql (.var 4) (.len (.var 0))) (.bool true) (.cmp .eql (.sidx (.var 0) (.var 4)) (.var 1)))
    (.evs [.need [(.cmp .leq (.int .i64 0) (.var 5)), (.cmp .leq (.var 5) (.var 4)), (.cmp .leq (.var 4) (.len (.var 0)))],
       .app (.var 7) 1 (.cells [(.ssub (.var 0) (.var 5) (.var 4))])]
     (.next 0 [(.ar .add .i64 (.var 4) (.int .i64 1)), (.ar .add .i64 (.var 4) (.int .i64 1)), (.var 8), (.var 9)]))
    (.next 0 [(.ar .add .i64 (.var 4) (.int .i64 1)), (.var 5), (.var 6), (.var 7)])))
   (.ret [(.var 6), (.var 7)]))))
def Fs_l7Cut : List Fun1 := []
def SP_l7Cut : Spec := SP_cut
theorem cut_last {c : UInt8} {s : List UInt8} {fr i : Nat} (h : i = s.length) : cutGo c ((s.drop fr).take (i - fr)) (s.drop i) = [(s.drop fr).take (i - fr)] := by
  rw [show s.drop i = [] from List.drop_eq_nil_of_le (by omega)]; rfl
theorem cut_hit {c : UInt8} {s : List UInt8} {fr i : Nat} (h : s[i]? = some c) : cutGo c ((s.drop fr).take (i - fr)) (s.drop i) = (s.drop fr).take (i - fr) :: cutGo c ((s.drop (i + 1)).take (i + 1 - (i + 1))) (s.drop (i + 1)) := by
  obtain ⟨hi, he⟩ := List.getElem?_eq_some_iff.1 h
  rw [List.drop_eq_getElem_cons hi, he, cutGo, if_pos rfl, Nat.sub_self, List.take_zero]
theorem cut_skip {c x : UInt8} {s : List UInt8} {fr i : Nat} (h : s[i]? = some x) (hx : x ≠ c) (hf : fr ≤ i) : cutGo c ((s.drop fr).take (i - fr)) (s.drop i) = cutGo c ((s.drop fr).take (i + 1 - fr)) (s.drop (i + 1)) := by
  obtain ⟨hi, he⟩ := List.getElem?_eq_some_iff.1 h
  rw [List.drop_eq_getElem_cons hi, he, cutGo, if_neg hx]
  congr 1
  rw [show i + 1 - fr = (i - fr) + 1 by omega, List.take_add_one]
  congr 1
  rw [List.getElem?_drop, show fr + (i - fr) = i by omega, h]
  rfl
theorem sat_l7Cut (P : Program) (ins : List Value) (K : List Value → Prop) (ht : TypedL [.str, .int .u8] ins) (h : SP_l7Cut ins K) : sat P (specsOf Fs_l7Cut) tr_l7Cut ins [] K := by
  obtain ⟨s, c, rfl, hs, hK⟩ := h
  refine evs_step (app_empty (by omega) fun a2 cap2 => evs_nil ?_)
  refine ⟨fun vs => ∃ (i fr : Nat) (a : Option Addr) (cap : Nat) (done : List (List UInt8)), vs = [.int .i64 i, .int .i64 fr, .slice a done.length cap, rowS done] ∧ i ≤ s.length + 1 ∧ fr ≤ i ∧
      (i ≤ s.length → cut c s = done ++ cutGo c ((s.drop fr).take (i - fr)) (s.drop i)) ∧ (i = s.length + 1 → cut c s = done) ∧ done.length ≤ i, fun vs => s.length + 1 - (toI (vs.getD 0 undef)).toNat, ?_, ?_⟩
  · exact ⟨0, 0, a2, cap2, [], rfl, by omega, by omega, fun _ => by simp [cut], fun h => by omega, by simp⟩
  · rintro vs hty ⟨i, fr, a, cap, done, rfl, hi, hfr, h1, h2, hd⟩
    have hlen : lenV (bv s) = (s.length : Int) := len_bv s
    refine ⟨fun hc => ?_, fun hc => ?_⟩
    · have hc : Value.bool (decide ((i : Int) ≤ lenV (bv s))) = .bool true := hc
      rw [hlen] at hc
      have hle : i ≤ s.length := by have := bt_of hc; omega
      have hcut := h1 hle
      have hw : IntKind.i64.wrap ((i : Int) + 1) = ((i + 1 : Nat) : Int) := by rw [wrap_in (by omega)]; omega
      refine evs_step (need_step (all_cons (need_if fun _ => ?_) (all_cons (need_if fun hg => ?_) all_nil)) (evs_nil ?_))
      · exact bt (Int.natCast_nonneg i)
      · have hg : (!((i : Int) == lenV (bv s))) = true := hg
        rw [hlen] at hg
        have : ¬ (i : Int) = s.length := by simpa using hg
        show Value.bool (decide ((i : Int) < lenV (bv s))) = _
        rw [hlen]
        exact bt (by omega)
      · have hbr : ∀ b, (if (((i : Int) == lenV (bv s)) : Bool) = true then Value.bool true else Value.bool (byteV (strV (bv s)) i == (c.toNat : Int))) = .bool b →
            (b = true ∧ (i = s.length ∨ s[i]? = some c)) ∨ (b = false ∧ ∃ x, s[i]? = some x ∧ x ≠ c) := by
          intro b hb
          rw [hlen] at hb
          by_cases he : i = s.length
          · rw [if_pos (by simp [he])] at hb
            exact .inl ⟨(Value.bool.inj hb).symm, .inl he⟩
          · rw [if_neg (by simp; omega)] at hb
            have hil : i < s.length := by omega
            rw [byte_bv (List.getElem?_eq_getElem hil)] at hb
            have hb := Value.bool.inj hb
            by_cases hx : s[i] = c
            · refine .inl ⟨by rw [← hb, hx]; simp, .inr (by rw [List.getElem?_eq_getElem hil, hx])⟩
            · refine .inr ⟨?_, s[i], List.getElem?_eq_getElem hil, hx⟩
              rw [← hb, beq_eq_false_iff_ne]
              intro e
              exact hx (UInt8.toNat_inj.1 (by omega))
        refine ⟨fun hx => ?_, fun hx => ?_⟩
        · have hyes : i = s.length ∨ s[i]? = some c := by
            rcases hbr true hx with h | h
            · exact h.2
            · cases h.1
          have hdl : done.length + 1 ≤ 2097154 := by omega
          refine evs_step (need_step (all_cons (bt (Int.natCast_nonneg fr)) (all_cons ?_ (all_cons hc all_nil))) (app_step (xs := done.map bv) (ys := [bv ((s.drop fr).take (i - fr))]) rfl ?_ (by simp; omega) fun a3 len3 cap3 _ hl => evs_nil ?_))
          · show Value.bool (decide ((fr : Int) ≤ (i : Int))) = _
            exact bt (by omega)
          · show [Value.string ((strV (bv s)).extract ((fr : Int)).toNat ((i : Int)).toNat)] = _
            rw [Int.toNat_natCast, Int.toNat_natCast, extract_bv]
          · have hl3 : len3 = (done ++ [(s.drop fr).take (i - fr)]).length := by simp at hl ⊢; omega
            subst hl3
            show (∃ _, _) ∧ _
            rw [show Value.agg (done.map bv ++ [bv ((s.drop fr).take (i - fr))]).toArray = rowS (done ++ [(s.drop fr).take (i - fr)]) from rowS_snoc _ _]
            refine ⟨⟨i + 1, i + 1, a3, cap3, done ++ [(s.drop fr).take (i - fr)], ?_, by omega, by omega, fun hle2 => ?_, fun he => ?_, by simp; omega⟩, ?_⟩
            · show [Value.int .i64 (IntKind.i64.wrap ((i : Int) + 1)), .int .i64 (IntKind.i64.wrap ((i : Int) + 1)), .slice a3 (done ++ [(s.drop fr).take (i - fr)]).length cap3, rowS (done ++ [(s.drop fr).take (i - fr)])] = _
              rw [hw]
            · rw [hcut]
              rcases hyes with h | h
              · omega
              · rw [cut_hit h]; simp
            · rw [hcut, cut_last (by omega)]
            · show s.length + 1 - (IntKind.i64.wrap ((i : Int) + 1)).toNat < s.length + 1 - ((i : Int)).toNat
              rw [hw]; omega
        · obtain ⟨x, hxs, hxc⟩ : ∃ x, s[i]? = some x ∧ x ≠ c := by
            rcases hbr false hx with h | h
            · cases h.1
            · exact h.2
          have hil := (List.getElem?_eq_some_iff.1 hxs).1
          refine ⟨⟨i + 1, fr, a, cap, done, ?_, by omega, by omega, fun hle2 => ?_, fun he => by omega, by omega⟩, ?_⟩
          · show [Value.int .i64 (IntKind.i64.wrap ((i : Int) + 1)), .int .i64 fr, .slice a done.length cap, rowS done] = _
            rw [hw]
          · rw [hcut, cut_skip hxs hxc hfr]
          · show s.length + 1 - (IntKind.i64.wrap ((i : Int) + 1)).toNat < s.length + 1 - ((i : Int)).toNat
            rw [hw]; omega
    · have hc : Value.bool (decide ((i : Int) ≤ lenV (bv s))) = .bool false := hc
      rw [hlen] at hc
      have hn := bf_of hc
      have hcut := h2 (by omega)
      rw [hcut] at hK
      exact hK a _ cap rfl
def tr_l7Number : Tr :=
  (.evs [.call 0 [(.len (.var 0)), (.int .i64 1), (.int .i64 4)] none 1]
  (.ite (.not (.var 1))
  (.ret [(.int .i64 0), (.bool false)])
  (.lp 0 [(.int .i64 0), (.int .i64 1), (.int .i64 0)] [.int .i64, .int .i64, .int .i64]
   (.ite (.cmp .lss (.var 2) (.len (.var 0)))
    (.evs [.need [(.ite (.cmp .eql (.var 2) (.int .i64 0)) (.cmp .leq (.int .i64 0) (.var 2)) (.bool true)), (.ite (.cmp .eql (.var 2) (.int .i64 0)) (.cmp .lss (.var 2) (.len (.var 0))) (.bool true))]]
     (.ite (.ite (.cmp .eql (.var 2) (.int .i64 0)) (.cmp .eql (.sidx (.var 0) (.var 2)) (.int .u8 45)) (.bool false))
     (.next 0 [(.ar .add .i64 (.var 2) (.int .i64 1)), (.int .i64 (-1)), (.var 4)])
     (.evs [.need [(.cmp .leq (.int .i64 0) (.var 2)), (.cmp .lss (.var 2) (.len (.var 0)))],
        .need [(.ite (.cmp .geq (.sidx (.var 0) (.var 2)) (.int .u8 48)) (.cmp .leq (.int .i64 0) (.var 2)) (.bool true)), (.ite (.cmp .geq (.sidx (.var 0) (.var 2)) (.int .u8 48)) (.cmp .lss (.var 2) (.len (.var 0))) (.bool true))]]
      (.ite (.ite (.cmp .geq (.sidx (.var 0) (.var 2)) (.int .u8 48)) (.cmp .leq (.sidx (.var 0) (.var 2)) (.int .u8 57)) (.bool false))
      (.evs [.need [(.cmp .leq (.int .i64 0) (.var 2)), (.cmp .lss (.var 2) (.len (.var 0)))]]
       (.next 0 [(.ar .add .i64 (.var 2) (.int .i64 1)), (.var 3), (.ar .add .i64 (.ar .mul .i64 (.int .i64 10) (.var 4)) (.conv .i64 (.ar .sub .u8 (.sidx (.var 0) (.var 2)) (.int .u8 48))))]))
      (.ret [(.int .i64 0), (.bool false)])))))
    (.evs [.call 1 [(.ar .mul .i64 (.var 3) (.var 4))] none 1]
     (.ret [(.ar .mul .i64 (.var 3) (.var 4)), (.seq (.var 5) (.var 0))]))))))
def Ss_l7Number : List Spec := [G_l6In.spec, SP_l6Dec]
def SP_l7Number : Spec := SP_num snum
def nst : List UInt8 → Option (Int × Nat)
  | [] => some (1, 0)
  | x :: r => if x = 45 then (digGo 0 r).map fun n => (-1, n) else (digGo 0 (x :: r)).map fun n => (1, n)
theorem digGo_app (b : List UInt8) : ∀ (a : List UInt8) (acc : Nat), digGo acc (a ++ b) = (digGo acc a).bind fun u => digGo u b
  | [], acc => rfl
  | x :: r, acc => by
    simp only [List.cons_append, digGo]
    split
    · exact digGo_app b r _
    · rfl
theorem nst_step {p : List UInt8} {x : UInt8} {sg : Int} {n : Nat} (h : nst p = some (sg, n)) : nst (p ++ [x]) = if p = [] ∧ x = 45 then some (-1, 0) else if 48 ≤ x.toNat ∧ x.toNat ≤ 57 then some (sg, 10 * n + (x.toNat - 48)) else none := by
  cases p with
  | nil =>
    cases h
    by_cases hx : x = 45
    · simp [nst, hx, digGo]
    · simp only [List.nil_append, nst, hx, and_false, if_false, digGo]
      split <;> simp
  | cons y r =>
    rw [if_neg (by simp)]
    simp only [List.cons_append, nst] at h ⊢
    by_cases hy : y = 45
    · rw [if_pos hy] at h ⊢
      cases hd : digGo 0 r with
      | none => rw [hd] at h; cases h
      | some u =>
        rw [hd] at h
        cases h
        rw [digGo_app, hd]
        simp only [Option.bind_some, digGo]
        split <;> simp
    · rw [if_neg hy] at h ⊢
      cases hd : digGo 0 (y :: r) with
      | none => rw [hd] at h; cases h
      | some u =>
        rw [hd] at h
        cases h
        have e : digGo 0 (y :: (r ++ [x])) = (digGo 0 (y :: r)).bind fun u => digGo u [x] := digGo_app [x] (y :: r) 0
        rw [e, hd]
        simp only [Option.bind_some, digGo]
        split <;> simp
theorem nst_none {p q : List UInt8} (h : nst p = none) : nst (p ++ q) = none := by
  cases p with
  | nil => cases h
  | cons y r =>
    simp only [List.cons_append, nst] at h ⊢
    split at h
    · rename_i hy
      rw [if_pos hy, digGo_app]
      rw [Option.map_eq_none_iff] at h
      rw [h]; rfl
    · rename_i hy
      rw [if_neg hy]
      rw [Option.map_eq_none_iff] at h
      have e : digGo 0 (y :: (r ++ q)) = (digGo 0 (y :: r)).bind fun u => digGo u q := digGo_app q (y :: r) 0
      rw [e, h]; rfl
theorem sraw_nst {l : List UInt8} (h : l ≠ []) : sraw l = (nst l).map fun p => p.1 * (p.2 : Int) := by
  cases l with
  | nil => exact absurd rfl h
  | cons x r =>
    simp only [sraw, nst]
    split
    · cases digGo 0 r <;> simp
    · cases digGo 0 (x :: r) <;> simp
theorem nst_lt {p : List UInt8} {sg : Int} {n : Nat} (h : nst p = some (sg, n)) : (sg = 1 ∨ sg = -1) ∧ n < 10 ^ p.length := by
  cases p with
  | nil => cases h; exact ⟨.inl rfl, by simp⟩
  | cons y r =>
    simp only [nst] at h
    split at h
    · cases hd : digGo 0 r with
      | none => rw [hd] at h; cases h
      | some u =>
        rw [hd] at h
        cases h
        have := digGo_lt hd
        refine ⟨.inr rfl, ?_⟩
        rw [List.length_cons, Nat.pow_succ]
        omega
    · cases hd : digGo 0 (y :: r) with
      | none => rw [hd] at h; cases h
      | some u =>
        rw [hd] at h
        cases h
        have := digGo_lt hd
        exact ⟨.inl rfl, by omega⟩
set_option maxHeartbeats 1000000 in
theorem sat_l7Number (P : Program) (ins : List Value) (K : List Value → Prop) (_ : TypedL [.str] ins) (h : SP_l7Number ins K) : sat P Ss_l7Number tr_l7Number ins [] K := by
  obtain ⟨l, rfl, hl, hK⟩ := h
  have hlen : lenV (bv l) = (l.length : Int) := len_bv l
  refine evs_step (call_step rfl ⟨trivial, evs_nil ?_⟩)
  have hno : snum l = none → ∀ z, I64 z → K [.int .i64 z, .bool false] := by
    intro hn
    rw [hn] at hK
    exact hK
  have hin : i0 [lenV (bv l) |> Value.int .i64, .int .i64 1, .int .i64 4] 0 = (l.length : Int) := by
    show lenV (bv l) = _
    exact hlen
  have hG : G_l6In.out [Value.int .i64 (lenV (bv l)), .int .i64 1, .int .i64 4] = [.bool (inRg (l.length : Int) 1 4)] := by
    show [Value.bool (inRg (lenV (bv l)) 1 4)] = _
    rw [hlen]
  show sat P _ _ ([bv l] ++ G_l6In.out [Value.int .i64 (lenV (bv l)), .int .i64 1, .int .i64 4]) _ K
  rw [hG]
  have i640 : I64 0 := by unfold I64; omega
  refine ⟨fun hc => ?_, fun hc => ?_⟩
  · have hc : Value.bool (!inRg (l.length : Int) 1 4) = .bool true := hc
    have hc := Value.bool.inj hc
    refine hno ?_ 0 i640
    unfold snum
    split
    · rename_i h4
      have : l = [] := by
        cases l with
        | nil => rfl
        | cons x r => simp [inRg] at hc; simp at h4; omega
      rw [this]; rfl
    · rfl
  · have hc : Value.bool (!inRg (l.length : Int) 1 4) = .bool false := hc
    have hc := Value.bool.inj hc
    have h14 : 1 ≤ l.length ∧ l.length ≤ 4 := by simp [inRg] at hc; omega
    have hne : l ≠ [] := by intro e; rw [e] at h14; simp at h14
    refine ⟨fun vs => ∃ (i : Nat) (sg : Int) (n : Nat), vs = [.int .i64 i, .int .i64 sg, .int .i64 n] ∧ i ≤ l.length ∧ nst (l.take i) = some (sg, n), fun vs => l.length - (toI (vs.getD 0 undef)).toNat, ?_, ?_⟩
    · exact ⟨0, 1, 0, rfl, Nat.zero_le _, rfl⟩
    · rintro vs hty ⟨i, sg, n, rfl, hi, hst⟩
      obtain ⟨hsg, hn⟩ := nst_lt hst
      have hn4 : n < 10000 := by
        have h1 : (l.take i).length ≤ 4 := by simp; omega
        have := Nat.pow_le_pow_right (n := 10) (by decide) h1
        omega
      refine ⟨fun hc => ?_, fun hc => ?_⟩
      · have hc : Value.bool (decide ((i : Int) < lenV (bv l))) = .bool true := hc
        have hc2 := hc
        rw [hlen] at hc2
        have hlt : i < l.length := by have := bt_of hc2; omega
        have hx := List.getElem?_eq_getElem hlt
        have hb : byteV (strV (bv l)) (i : Int) = (l[i].toNat : Int) := byte_bv hx
        have hw : IntKind.i64.wrap ((i : Int) + 1) = ((i + 1 : Nat) : Int) := by rw [wrap_in (by omega)]; omega
        have htk : l.take (i + 1) = l.take i ++ [l[i]] := by rw [List.take_add_one, hx]; rfl
        have hstep := nst_step (x := l[i]) hst
        rw [← htk] at hstep
        have hmu : ∀ a b, l.length - (toI ([Value.int .i64 (IntKind.i64.wrap ((i : Int) + 1)), a, b].getD 0 undef)).toNat < l.length - (toI ([Value.int .i64 (i : Int), .int .i64 sg, .int .i64 n].getD 0 undef)).toNat := by
          intro a b
          show l.length - (IntKind.i64.wrap ((i : Int) + 1)).toNat < l.length - ((i : Int)).toNat
          rw [hw, Int.toNat_natCast, Int.toNat_natCast]
          clear hn4 hst hstep
          omega
        have hnil : l.take i = [] ↔ i = 0 := by
          constructor
          · intro e
            exact (List.take_eq_nil_iff.1 e).elim id fun h => absurd h hne
          · rintro rfl; rfl
        have h0i : Value.bool (decide (0 ≤ (i : Int))) = .bool true := bt (Int.natCast_nonneg i)
        have hfail : nst (l.take (i + 1)) = none → snum l = none := by
          intro hnn
          have : nst l = none := by
            rw [← List.take_append_drop (i + 1) l]
            exact nst_none hnn
          unfold snum
          rw [if_pos h14.2, sraw_nst hne, this]
          rfl
        refine evs_step (need_step (all_cons (need_if fun _ => h0i) (all_cons (need_if fun _ => hc) all_nil)) (evs_nil ?_))
        refine ⟨fun hg => ?_, fun hg => ?_⟩
        · have hg : (if ((i : Int) == 0) = true then Value.bool (byteV (strV (bv l)) i == 45) else Value.bool false) = .bool true := hg
          rw [hb] at hg
          have hi0 : i = 0 := by
            by_cases e : i = 0
            · exact e
            · rw [if_neg (by simp; omega)] at hg; cases hg
          rw [if_pos (by simp [hi0])] at hg
          have h45 : l[i] = 45 := by
            have := Value.bool.inj hg
            have : (l[i].toNat : Int) = 45 := by simpa using this
            exact UInt8.toNat_inj.1 (by show l[i].toNat = 45; omega)
          rw [if_pos ⟨hnil.2 hi0, h45⟩] at hstep
          have hn0 : n = 0 := by
            rw [hnil.2 hi0] at hst
            cases hst; rfl
          refine ⟨⟨i + 1, -1, 0, ?_, hlt, hstep⟩, hmu _ _⟩
          show [Value.int .i64 (IntKind.i64.wrap ((i : Int) + 1)), .int .i64 (-1), .int .i64 n] = _
          rw [hw, hn0]
        · have hg : (if ((i : Int) == 0) = true then Value.bool (byteV (strV (bv l)) i == 45) else Value.bool false) = .bool false := hg
          rw [hb] at hg
          have hno45 : ¬ (l.take i = [] ∧ l[i] = 45) := by
            rintro ⟨e1, e2⟩
            rw [if_pos (by simp [hnil.1 e1]), e2] at hg
            cases hg
          rw [if_neg hno45] at hstep
          refine evs_step (need_step (all_cons h0i (all_cons hc all_nil)) (need_step (all_cons (need_if fun _ => h0i) (all_cons (need_if fun _ => hc) all_nil)) (evs_nil ?_)))
          refine ⟨fun hd => ?_, fun hd => ?_⟩
          · have hd : (if decide (byteV (strV (bv l)) i ≥ 48) = true then Value.bool (decide (byteV (strV (bv l)) i ≤ 57)) else Value.bool false) = .bool true := hd
            rw [hb] at hd
            have hdig : 48 ≤ l[i].toNat ∧ l[i].toNat ≤ 57 := by
              by_cases e : (l[i].toNat : Int) ≥ 48
              · rw [if_pos (by simpa using e)] at hd
                have := bt_of hd
                omega
              · rw [if_neg (by simpa using e)] at hd; cases hd
            rw [if_pos hdig] at hstep
            refine evs_step (need_step (all_cons h0i (all_cons hc all_nil)) (evs_nil ⟨⟨i + 1, sg, 10 * n + (l[i].toNat - 48), ?_, hlt, hstep⟩, hmu _ _⟩))
            show [Value.int .i64 (IntKind.i64.wrap ((i : Int) + 1)), .int .i64 sg, .int .i64 (IntKind.i64.wrap (IntKind.i64.wrap (10 * (n : Int)) + IntKind.i64.wrap (IntKind.u8.wrap (byteV (strV (bv l)) i - 48))))] = _
            rw [hw, hb]
            have e1 : IntKind.u8.wrap ((l[i].toNat : Int) - 48) = ((l[i].toNat - 48 : Nat) : Int) := by
              rw [wrap_of_range (k := .u8) (by simp only [IntKind.min, IntKind.bits, IntKind.signed]; simp; omega) (by simp only [IntKind.max, IntKind.bits, IntKind.signed]; simp; omega)]
              omega
            rw [e1, wrap_in (show I64 (((l[i].toNat - 48 : Nat) : Int)) by unfold I64; omega), wrap_in (show I64 (10 * (n : Int)) by unfold I64; omega), wrap_in (by omega)]
            congr 4
          · have hd : (if decide (byteV (strV (bv l)) i ≥ 48) = true then Value.bool (decide (byteV (strV (bv l)) i ≤ 57)) else Value.bool false) = .bool false := hd
            rw [hb] at hd
            have hdig : ¬ (48 ≤ l[i].toNat ∧ l[i].toNat ≤ 57) := by
              intro e
              rw [if_pos (by simp; omega)] at hd
              have := bf_of hd
              omega
            rw [if_neg hdig] at hstep
            exact hno (hfail hstep) 0 i640
      · have hc : Value.bool (decide ((i : Int) < lenV (bv l))) = .bool false := hc
        rw [hlen] at hc
        have hge : i = l.length := by have := bf_of hc; omega
        subst hge
        rw [List.take_length] at hst
        have hsr : sraw l = some (sg * (n : Int)) := by rw [sraw_nst hne, hst]; rfl
        have hb : I64 (sg * (n : Int)) := by
          unfold I64
          rcases hsg with rfl | rfl <;> omega
        have hw : IntKind.i64.wrap (sg * (n : Int)) = sg * (n : Int) := wrap_in hb
        refine evs_step (call_step rfl ⟨IntKind.i64.wrap (sg * (n : Int)), rfl, evs_nil ?_⟩)
        show K [Value.int .i64 (IntKind.i64.wrap (sg * (n : Int))), .bool ((strV (bv (Lib.itoa (IntKind.i64.wrap (sg * (n : Int)))))).toList == (strV (bv l)).toList)]
        rw [hw, seq_bv]
        unfold snum at hK
        rw [if_pos h14.2, hsr] at hK
        dsimp only at hK
        by_cases he : Lib.itoa (sg * (n : Int)) = l
        · rw [if_pos he] at hK
          rw [decide_eq_true he]
          exact hK
        · rw [if_neg he] at hK
          rw [decide_eq_false he]
          exact hK _ hb
def tr_l7One : Tr :=
  (.ite (.cmp .lss (.len (.var 0)) (.int .i64 2))
  (.ret [(.int .u8 0), (.val (.slice none 0 0)), (.bool false), (.val (.agg #[]))])
  (.evs [.need [(.bool true), (.cmp .lss (.int .i64 0) (.len (.var 0)))],
     .app (.val (.agg #[])) 1 (.cells [])]
   (.evs [.need [(.bool true), (.cmp .leq (.int .i64 1) (.len (.var 0))), (.cmp .leq (.len (.var 0)) (.len (.var 0)))],
     .call 0 [(.ssub (.var 0) (.int .i64 1) (.len (.var 0))), (.int .u8 58)] none 2]
   (.lp 0 [(.int .i64 0), (.var 1), (.val (.agg #[]))] [.int .i64, .sl, .row .i64 1]
   (.ite (.cmp .lss (.var 5) (.len (.var 3)))
    (.evs [.need [(.inb (.var 4) (.var 5) 1)],
       .call 1 [(.sel (.var 4) (.var 5) 1 0)] none 2]
     (.ite (.not (.var 9))
     (.ret [(.sidx (.var 0) (.int .i64 0)), (.var 6), (.bool false), (.var 7)])
     (.evs [.app (.var 7) 1 (.cells [(.var 8)])]
      (.next 0 [(.ar .add .i64 (.var 5) (.int .i64 1)), (.var 10), (.var 11)]))))
    (.ite (.cmp .eql (.sidx (.var 0) (.int .i64 0)) (.int .u8 114))
     (.ite (.cmp .eql (.sidx (.var 0) (.int .i64 0)) (.int .u8 114))
      (.ite (.cmp .neq (.len (.var 6)) (.int .i64 2))
       (.ret [(.sidx (.var 0) (.int .i64 0)), (.var 6), (.bool false), (.var 7)])
       (.evs [.need [(.inb (.var 7) (.int .i64 0) 1), (.inb (.var 7) (.int .i64 1) 1)],
          .need [(.inb (.var 7) (.int .i64 0) 1), (.inb (.var 7) (.int .i64 1) 1)],
          .call 2 [(.sel (.var 7) (.int .i64 0) 1 0), (.sel (.var 7) (.int .i64 1) 1 0)] none 7]
        (.ret [(.sidx (.var 0) (.int .i64 0)), (.var 6), (.var 14), (.var 7)])))
      (.ite (.cmp .eql (.sidx (.var 0) (.int .i64 0)) (.int .u8 119))
       (.ite (.cmp .neq (.len (.var 6)) (.int .i64 3))
        (.ret [(.sidx (.var 0) (.int .i64 0)), (.var 6), (.bool false), (.var 7)])
        (.evs [.need [(.inb (.var 7) (.int .i64 0) 1), (.inb (.var 7) (.int .i64 1) 1)],
           .need [(.inb (.var 7) (.int .i64 0) 1), (.inb (.var 7) (.int .i64 1) 1)],
           .call 2 [(.sel (.var 7) (.int .i64 0) 1 0), (.sel (.var 7) (.int .i64 1) 1 0)] none 7]
         (.evs [.need [(.ite (.var 14) (.inb (.var 7) (.int .i64 2) 1) (.bool true))],
           .need [(.ite (.var 14) (.inb (.var 7) (.int .i64 2) 1) (.bool true))],
           .call 3 [(.sel (.var 7) (.int .i64 2) 1 0), (.int .i64 0), (.int .i64 3)] (some (.var 14)) 1]
         (.ret [(.sidx (.var 0) (.int .i64 0)), (.var 6), (.ite (.var 14) (.var 15) (.bool false)), (.var 7)]))))
       (.ite (.cmp .eql (.sidx (.var 0) (.int .i64 0)) (.int .u8 97))
        (.ite (.cmp .eql (.sidx (.var 0) (.int .i64 0)) (.int .u8 97))
         (.evs [.need [(.ite (.cmp .eql (.len (.var 6)) (.int .i64 2)) (.inb (.var 7) (.int .i64 1) 1) (.bool true)), (.ite (.cmp .eql (.len (.var 6)) (.int .i64 2)) (.inb (.var 7) (.int .i64 0) 1) (.bool true)), (.ite (.cmp .eql (.len (.var 6)) (.int .i64 2)) (.inb (.var 7) (.int .i64 1) 1) (.bool true))],
            .need [(.ite (.cmp .eql (.len (.var 6)) (.int .i64 2)) (.inb (.var 7) (.int .i64 1) 1) (.bool true))],
            .call 3 [(.sel (.var 7) (.int .i64 1) 1 0), (.int .i64 1), (.int .i64 100)] (some (.cmp .eql (.len (.var 6)) (.int .i64 2))) 1,
            .need [(.ite (.ite (.cmp .eql (.len (.var 6)) (.int .i64 2)) (.var 8) (.bool false)) (.inb (.var 7) (.int .i64 0) 1) (.bool true)), (.ite (.ite (.cmp .eql (.len (.var 6)) (.int .i64 2)) (.var 8) (.bool false)) (.inb (.var 7) (.int .i64 1) 1) (.bool true))],
            .call 3 [(.sel (.var 7) (.int .i64 0) 1 0), (.int .i64 0), (.sel (.var 7) (.int .i64 1) 1 0)] (some (.ite (.cmp .eql (.len (.var 6)) (.int .i64 2)) (.var 8) (.bool false))) 1]
          (.ret [(.sidx (.var 0) (.int .i64 0)), (.var 6), (.ite (.ite (.cmp .eql (.len (.var 6)) (.int .i64 2)) (.var 8) (.bool false)) (.var 9) (.bool false)), (.var 7)]))
         (.ret [(.sidx (.var 0) (.int .i64 0)), (.var 6), (.bool false), (.var 7)]))
        (.ite (.cmp .eql (.sidx (.var 0) (.int .i64 0)) (.int .u8 100))
         (.evs [.need [(.ite (.cmp .eql (.len (.var 6)) (.int .i64 2)) (.inb (.var 7) (.int .i64 1) 1) (.bool true)), (.ite (.cmp .eql (.len (.var 6)) (.int .i64 2)) (.inb (.var 7) (.int .i64 0) 1) (.bool true)), (.ite (.cmp .eql (.len (.var 6)) (.int .i64 2)) (.inb (.var 7) (.int .i64 1) 1) (.bool true))],
            .need [(.ite (.cmp .eql (.len (.var 6)) (.int .i64 2)) (.inb (.var 7) (.int .i64 1) 1) (.bool true))],
            .call 3 [(.sel (.var 7) (.int .i64 1) 1 0), (.int .i64 1), (.int .i64 100)] (some (.cmp .eql (.len (.var 6)) (.int .i64 2))) 1,
            .need [(.ite (.ite (.cmp .eql (.len (.var 6)) (.int .i64 2)) (.var 8) (.bool false)) (.inb (.var 7) (.int .i64 0) 1) (.bool true)), (.ite (.ite (.cmp .eql (.len (.var 6)) (.int .i64 2)) (.var 8) (.bool false)) (.inb (.var 7) (.int .i64 1) 1) (.bool true))],
            .call 3 [(.sel (.var 7) (.int .i64 0) 1 0), (.int .i64 0), (.sel (.var 7) (.int .i64 1) 1 0)] (some (.ite (.cmp .eql (.len (.var 6)) (.int .i64 2)) (.var 8) (.bool false))) 1]
          (.ret [(.sidx (.var 0) (.int .i64 0)), (.var 6), (.ite (.ite (.cmp .eql (.len (.var 6)) (.int .i64 2)) (.var 8) (.bool false)) (.var 9) (.bool false)), (.var 7)]))
         (.ret [(.sidx (.var 0) (.int .i64 0)), (.var 6), (.bool false), (.var 7)])))))
     (.ite (.cmp .eql (.sidx (.var 0) (.int .i64 0)) (.int .u8 102))
      (.ite (.cmp .neq (.len (.var 6)) (.int .i64 2))
       (.ret [(.sidx (.var 0) (.int .i64 0)), (.var 6), (.bool false), (.var 7)])
       (.evs [.need [(.inb (.var 7) (.int .i64 0) 1), (.inb (.var 7) (.int .i64 1) 1)],
          .need [(.inb (.var 7) (.int .i64 0) 1), (.inb (.var 7) (.int .i64 1) 1)],
          .call 2 [(.sel (.var 7) (.int .i64 0) 1 0), (.sel (.var 7) (.int .i64 1) 1 0)] none 7]
        (.ret [(.sidx (.var 0) (.int .i64 0)), (.var 6), (.var 14), (.var 7)])))
      (.ite (.cmp .eql (.sidx (.var 0) (.int .i64 0)) (.int .u8 119))
       (.ite (.cmp .neq (.len (.var 6)) (.int .i64 3))
        (.ret [(.sidx (.var 0) (.int .i64 0)), (.var 6), (.bool false), (.var 7)])
        (.evs [.need [(.inb (.var 7) (.int .i64 0) 1), (.inb (.var 7) (.int .i64 1) 1)],
           .need [(.inb (.var 7) (.int .i64 0) 1), (.inb (.var 7) (.int .i64 1) 1)],
           .call 2 [(.sel (.var 7) (.int .i64 0) 1 0), (.sel (.var 7) (.int .i64 1) 1 0)] none 7]
         (.evs [.need [(.ite (.var 14) (.inb (.var 7) (.int .i64 2) 1) (.bool true))],
           .need [(.ite (.var 14) (.inb (.var 7) (.int .i64 2) 1) (.bool true))],
           .call 3 [(.sel (.var 7) (.int .i64 2) 1 0), (.int .i64 0), (.int .i64 3)] (some (.var 14)) 1]
         (.ret [(.sidx (.var 0) (.int .i64 0)), (.var 6), (.ite (.var 14) (.var 15) (.bool false)), (.var 7)]))))
       (.ite (.cmp .eql (.sidx (.var 0) (.int .i64 0)) (.int .u8 97))
        (.ite (.cmp .eql (.sidx (.var 0) (.int .i64 0)) (.int .u8 97))
         (.evs [.need [(.ite (.cmp .eql (.len (.var 6)) (.int .i64 2)) (.inb (.var 7) (.int .i64 1) 1) (.bool true)), (.ite (.cmp .eql (.len (.var 6)) (.int .i64 2)) (.inb (.var 7) (.int .i64 0) 1) (.bool true)), (.ite (.cmp .eql (.len (.var 6)) (.int .i64 2)) (.inb (.var 7) (.int .i64 1) 1) (.bool true))],
            .need [(.ite (.cmp .eql (.len (.var 6)) (.int .i64 2)) (.inb (.var 7) (.int .i64 1) 1) (.bool true))],
            .call 3 [(.sel (.var 7) (.int .i64 1) 1 0), (.int .i64 1), (.int .i64 100)] (some (.cmp .eql (.len (.var 6)) (.int .i64 2))) 1,
            .need [(.ite (.ite (.cmp .eql (.len (.var 6)) (.int .i64 2)) (.var 8) (.bool false)) (.inb (.var 7) (.int .i64 0) 1) (.bool true)), (.ite (.ite (.cmp .eql (.len (.var 6)) (.int .i64 2)) (.var 8) (.bool false)) (.inb (.var 7) (.int .i64 1) 1) (.bool true))],
            .call 3 [(.sel (.var 7) (.int .i64 0) 1 0), (.int .i64 0), (.sel (.var 7) (.int .i64 1) 1 0)] (some (.ite (.cmp .eql (.len (.var 6)) (.int .i64 2)) (.var 8) (.bool false))) 1]
          (.ret [(.sidx (.var 0) (.int .i64 0)), (.var 6), (.ite (.ite (.cmp .eql (.len (.var 6)) (.int .i64 2)) (.var 8) (.bool false)) (.var 9) (.bool false)), (.var 7)]))
         (.ret [(.sidx (.var 0) (.int .i64 0)), (.var 6), (.bool false), (.var 7)]))
        (.ite (.cmp .eql (.sidx (.var 0) (.int .i64 0)) (.int .u8 100))
         (.evs [.need [(.ite (.cmp .eql (.len (.var 6)) (.int .i64 2)) (.inb (.var 7) (.int .i64 1) 1) (.bool true)), (.ite (.cmp .eql (.len (.var 6)) (.int .i64 2)) (.inb (.var 7) (.int .i64 0) 1) (.bool true)), (.ite (.cmp .eql (.len (.var 6)) (.int .i64 2)) (.inb (.var 7) (.int .i64 1) 1) (.bool true))],
            .need [(.ite (.cmp .eql (.len (.var 6)) (.int .i64 2)) (.inb (.var 7) (.int .i64 1) 1) (.bool true))],
            .call 3 [(.sel (.var 7) (.int .i64 1) 1 0), (.int .i64 1), (.int .i64 100)] (some (.cmp .eql (.len (.var 6)) (.int .i64 2))) 1,
            .need [(.ite (.ite (.cmp .eql (.len (.var 6)) (.int .i64 2)) (.var 8) (.bool false)) (.inb (.var 7) (.int .i64 0) 1) (.bool true)), (.ite (.ite (.cmp .eql (.len (.var 6)) (.int .i64 2)) (.var 8) (.bool false)) (.inb (.var 7) (.int .i64 1) 1) (.bool true))],
            .call 3 [(.sel (.var 7) (.int .i64 0) 1 0), (.int .i64 0), (.sel (.var 7) (.int .i64 1) 1 0)] (some (.ite (.cmp .eql (.len (.var 6)) (.int .i64 2)) (.var 8) (.bool false))) 1]
          (.ret [(.sidx (.var 0) (.int .i64 0)), (.var 6), (.ite (.ite (.cmp .eql (.len (.var 6)) (.int .i64 2)) (.var 8) (.bool false)) (.var 9) (.bool false)), (.var 7)]))
         (.ret [(.sidx (.var 0) (.int .i64 0)), (.var 6), (.bool false), (.var 7)])))))))))))
def Ss_l7One : List Spec := [SP_l7Cut, SP_l7Number, G_l5Direction.spec, G_l6In.spec]
theorem ite_t {P : Program} {specs : List Spec} {c : Ex} {a b : Tr} {env : List Value} {N : List (List Value → Prop)} {K : List Value → Prop} (h : ev env c = .bool true) (ha : sat P specs a env N K) : sat P specs (.ite c a b) env N K :=
  ⟨fun _ => ha, (fun h2 => by rw [h] at h2; cases h2)⟩
theorem ite_f {P : Program} {specs : List Spec} {c : Ex} {a b : Tr} {env : List Value} {N : List (List Value → Prop)} {K : List Value → Prop} (h : ev env c = .bool false) (hb : sat P specs b env N K) : sat P specs (.ite c a b) env N K :=
  ⟨(fun h2 => by rw [h] at h2; cases h2), fun _ => hb⟩
theorem beq_f {k m : UInt8} (h : k ≠ m) : Value.bool ((k.toNat : Int) == (m.toNat : Int)) = .bool false := by
  congr 1
  rw [beq_eq_false_iff_ne]
  intro e
  exact h (UInt8.toNat_inj.1 (by omega))
theorem two_list {ns : List Int} (h : ns.length = 2) : ∃ p q, ns = [p, q] := by
  match ns, h with
  | [p, q], _ => exact ⟨p, q, rfl⟩
theorem three_list {ns : List Int} (h : ns.length = 3) : ∃ p q r, ns = [p, q, r] := by
  match ns, h with
  | [p, q, r], _ => exact ⟨p, q, r, rfl⟩
theorem ok_len2 {k : UInt8} {ns : List Int} (hk : k = 114 ∨ k = 102 ∨ k = 97 ∨ k = 100) (h : ns.length ≠ 2) : okPiece k ns = false := by
  match ns, h with
  | [], _ => rcases hk with rfl | rfl | rfl | rfl <;> rfl
  | [_], _ => rcases hk with rfl | rfl | rfl | rfl <;> rfl
  | [_, _], h => exact absurd rfl h
  | _ :: _ :: _ :: _, _ => rcases hk with rfl | rfl | rfl | rfl <;> rfl
theorem ok_len3 {ns : List Int} (h : ns.length ≠ 3) : okPiece 119 ns = false := by
  match ns, h with
  | [], _ => rfl
  | [_], _ => rfl
  | [_, _], _ => rfl
  | [_, _, _], h => exact absurd rfl h
  | _ :: _ :: _ :: _ :: _, _ => rfl
theorem ok_other {k : UInt8} {ns : List Int} (h1 : k ≠ 114) (h2 : k ≠ 102) (h3 : k ≠ 119) (h4 : k ≠ 97) (h5 : k ≠ 100) : okPiece k ns = false := by
  unfold okPiece
  rw [if_neg (by simp [h1, h2]), if_neg h3, if_neg (by simp [h4, h5])]
theorem k_cases (k : UInt8) : k = 114 ∨ k = 102 ∨ k = 119 ∨ k = 97 ∨ k = 100 ∨ (k ≠ 114 ∧ k ≠ 102 ∧ k ≠ 119 ∧ k ≠ 97 ∧ k ≠ 100) := by
  by_cases h1 : k = 114
  · exact .inl h1
  by_cases h2 : k = 102
  · exact .inr (.inl h2)
  by_cases h3 : k = 119
  · exact .inr (.inr (.inl h3))
  by_cases h4 : k = 97
  · exact .inr (.inr (.inr (.inl h4)))
  by_cases h5 : k = 100
  · exact .inr (.inr (.inr (.inr (.inl h5))))
  exact .inr (.inr (.inr (.inr (.inr ⟨h1, h2, h3, h4, h5⟩))))
def SP_l7One : Spec := SP_one
set_option maxHeartbeats 2000000 in
theorem sat_l7One (P : Program) (ins : List Value) (K : List Value → Prop) (_ : TypedL [.str] ins) (h : SP_l7One ins K) : sat P Ss_l7One tr_l7One ins [] K := by
  obtain ⟨s, rfl, hl, hK⟩ := h
  have hlen : lenV (bv s) = (s.length : Int) := len_bv s
  have hno : pieceW snum s = none → ∀ k x c, K [k, x, .bool false, c] := by
    intro hn
    rw [hn] at hK
    exact hK
  refine ⟨fun hc => ?_, fun hc => ?_⟩
  · have hc : Value.bool (decide (lenV (bv s) < 2)) = .bool true := hc
    rw [hlen] at hc
    have hlt := bt_of hc
    refine hno ?_ _ _ _
    match s, hlt with
    | [], _ => rfl
    | [k], _ => rfl
    | _ :: _ :: _, h => simp at h; omega
  · have hc : Value.bool (decide (lenV (bv s) < 2)) = .bool false := hc
    rw [hlen] at hc
    have hge := bf_of hc
    obtain ⟨k, r, rfl⟩ : ∃ k r, s = k :: r := by
      cases s with
      | nil => simp at hge
      | cons k r => exact ⟨k, r, rfl⟩
    have h0l : Value.bool (decide (0 < lenV (bv (k :: r)))) = .bool true := by
      rw [hlen]
      exact bt (by simp only [List.length_cons]; omega)
    refine evs_step (need_step (all_cons rfl (all_cons h0l all_nil)) (app_empty (by omega) fun a1 cap1 => evs_nil ?_))
    refine evs_step (need_step (all_cons rfl (all_cons ?_ (all_cons ?_ all_nil))) (call_step rfl ?_))
    · show Value.bool (decide (1 ≤ lenV (bv (k :: r)))) = _
      rw [hlen]
      exact bt (by simp only [List.length_cons]; omega)
    · show Value.bool (decide (lenV (bv (k :: r)) ≤ lenV (bv (k :: r)))) = _
      exact bt (Int.le_refl _)
    · refine ⟨r, 58, ?_, by simp at hl; omega, fun a2 len2 cap2 hl2 => evs_nil ?_⟩
      · show [Value.string ((strV (bv (k :: r))).extract 1 (lenV (bv (k :: r))).toNat), u8 58] = _
        rw [extract_bv, hlen]
        simp
      subst hl2
      refine ⟨fun vs => ∃ (i : Nat) (a : Option Addr) (cap : Nat) (ns : List Int), vs = [.int .i64 i, .slice a i cap, rowI ns] ∧ i ≤ (cut 58 r).length ∧ numsW snum ((cut 58 r).take i) = some ns, fun vs => (cut 58 r).length - (toI (vs.getD 0 undef)).toNat, ?_, ?_⟩
      · exact ⟨0, a1, cap1, [], rfl, Nat.zero_le _, rfl⟩
      · rintro vs hty ⟨i, a, cap, ns, rfl, hi, hns⟩
        have hnl : ns.length = i := by
          rw [numsW_length hns]; simp; omega
        have hcc := cut_count 58 r
        refine ⟨fun hc => ?_, fun hc => ?_⟩
        · have hlt : i < (cut 58 r).length := by
            have hc : Value.bool (decide ((i : Int) < ((cut 58 r).length : Int))) = .bool true := hc
            have := bt_of hc; omega
          have hx := List.getElem?_eq_getElem hlt
          have hw : IntKind.i64.wrap ((i : Int) + 1) = ((i + 1 : Nat) : Int) := by rw [wrap_in (by simp at hl; omega)]; omega
          have htk : (cut 58 r).take (i + 1) = (cut 58 r).take i ++ [(cut 58 r)[i]] := by rw [List.take_add_one, hx]; rfl
          have hwl := cut_len 58 r _ (List.getElem_mem hlt)
          have hsn := numsW_snoc (nm := snum) (w := (cut 58 r)[i]) (ws := (cut 58 r).take i)
          rw [hns] at hsn
          refine evs_step (need_step (all_cons (inb_true (c := rowS (cut 58 r)) (i := i) (n := 1) (by simp [rowS_cells]; omega)) all_nil) (call_step rfl ?_))
          refine ⟨(cut 58 r)[i], ?_, by simp at hl; omega, ?_⟩
          · show [(rowS (cut 58 r)).cells.getD (((i : Int)).toNat * 1 + 0) undef] = _
            rw [Int.toNat_natCast, rowS_get hx]
          cases hv : snum (cut 58 r)[i] with
          | none =>
            intro z _
            refine evs_nil (ite_t rfl ?_)
            refine hno ?_ _ _ _
            have : numsW snum (cut 58 r) = none := numsW_none hv (List.getElem_mem hlt)
            simp only [pieceW, this]
          | some n =>
            rw [hv] at hsn
            have hsn : numsW snum ((cut 58 r).take i ++ [(cut 58 r)[i]]) = some (ns ++ [n]) := hsn
            refine evs_nil (ite_f rfl ?_)
            refine evs_step (app_step (xs := intVals ns) (ys := [.int .i64 n]) rfl rfl (by rw [intVals_map]; simp; simp at hl; omega) fun a3 len3 cap3 _ hl3 => evs_nil ?_)
            have hl3 : len3 = i + 1 := by rw [intVals_map] at hl3; simp at hl3; omega
            subst hl3
            refine ⟨⟨i + 1, a3, cap3, ns ++ [n], ?_, hlt, by rw [htk]; exact hsn⟩, ?_⟩
            · rw [← rowI_snoc]
              show [Value.int .i64 (IntKind.i64.wrap ((i : Int) + 1)), .slice a3 (i + 1) cap3, Value.agg (intVals ns ++ [Value.int .i64 n]).toArray] = _
              rw [hw]
            · show (cut 58 r).length - (IntKind.i64.wrap ((i : Int) + 1)).toNat < (cut 58 r).length - ((i : Int)).toNat
              rw [hw, Int.toNat_natCast, Int.toNat_natCast]
              omega
        · have hge : i = (cut 58 r).length := by
            have hc : Value.bool (decide ((i : Int) < ((cut 58 r).length : Int))) = .bool false := hc
            have := bf_of hc; omega
          have hns2 : numsW snum (cut 58 r) = some ns := by
            rw [← hns, hge, List.take_length]
          have hdone : ∀ b, okPiece k ns = b → K [u8 k, .slice a i cap, .bool b, rowI ns] := by
            intro b hb
            simp only [pieceW, hns2, hb] at hK
            cases b with
            | true => exact hK a i cap hnl.symm
            | false => exact hK _ _ _
          clear hK hno hc hty hns hns2 hge hcc hi
          subst hnl
          have hneq : ∀ m : Nat, Value.bool ((ns.length : Int) != (m : Int)) = .bool (decide (ns.length ≠ m)) := by
            intro m
            congr 1
            by_cases e : ns.length = m
            · simp [e]
            · simp [e]; omega
          have heq : ∀ m : Nat, Value.bool ((ns.length : Int) == (m : Int)) = .bool (decide (ns.length = m)) := by
            intro m
            congr 1
            by_cases e : ns.length = m
            · simp [e]
            · simp [e]; omega
          rcases k_cases k with rfl | rfl | rfl | rfl | rfl | ⟨k1, k2, k3, k4, k5⟩
          · refine ite_t rfl (ite_t rfl ?_)
            by_cases h2 : ns.length = 2
            · obtain ⟨p, q, rfl⟩ := two_list h2
              refine ite_f rfl (evs_step (need_step (all_cons rfl (all_cons rfl all_nil)) (need_step (all_cons rfl (all_cons rfl all_nil)) (call_step rfl ⟨trivial, evs_nil ?_⟩))))
              exact hdone (dirOk p q) rfl
            · exact ite_t ((hneq 2).trans (bt h2)) (hdone false (ok_len2 (by simp) h2))
          · refine ite_f rfl (ite_t rfl ?_)
            by_cases h2 : ns.length = 2
            · obtain ⟨p, q, rfl⟩ := two_list h2
              refine ite_f rfl (evs_step (need_step (all_cons rfl (all_cons rfl all_nil)) (need_step (all_cons rfl (all_cons rfl all_nil)) (call_step rfl ⟨trivial, evs_nil ?_⟩))))
              exact hdone (dirOk p q) rfl
            · exact ite_t ((hneq 2).trans (bt h2)) (hdone false (ok_len2 (by simp) h2))
          · refine ite_f rfl (ite_f rfl (ite_t rfl ?_))
            by_cases h3 : ns.length = 3
            · obtain ⟨p, q, t, rfl⟩ := three_list h3
              refine ite_f rfl (evs_step (need_step (all_cons rfl (all_cons rfl all_nil)) (need_step (all_cons rfl (all_cons rfl all_nil)) (call_step rfl ⟨trivial, evs_nil ?_⟩))))
              refine evs_step (need_step (all_cons (need_if fun _ => rfl) all_nil) (need_step (all_cons (need_if fun _ => rfl) all_nil) (callg_step rfl (fun hg => ⟨trivial, evs_nil ?_⟩) (fun hg => evs_nil ?_))))
              · have hg : dirOk p q = true := hg
                have := hdone (dirOk p q && inRg t 0 3) rfl
                rw [hg, Bool.true_and] at this
                show K [_, _, (if toB (Value.bool (dirOk p q)) = true then Value.bool (inRg t 0 3) else Value.bool false), _]
                rw [hg]
                exact this
              · have hg : dirOk p q = false := hg
                have := hdone (dirOk p q && inRg t 0 3) rfl
                rw [hg, Bool.false_and] at this
                show K [_, _, (if toB (Value.bool (dirOk p q)) = true then _ else Value.bool false), _]
                rw [hg]
                exact this
            · exact ite_t ((hneq 3).trans (bt h3)) (hdone false (ok_len3 h3))
          · refine ite_f rfl (ite_f rfl (ite_f rfl (ite_t rfl (ite_t rfl ?_))))
            by_cases h2 : ns.length = 2
            · obtain ⟨n, d, rfl⟩ := two_list h2
              refine evs_step (need_step (all_cons (need_if fun _ => rfl) (all_cons (need_if fun _ => rfl) (all_cons (need_if fun _ => rfl) all_nil))) (need_step (all_cons (need_if fun _ => rfl) all_nil) (callg_step rfl (fun _ => ⟨trivial, ?_⟩) (fun hg => (by cases hg)))))
              refine need_step (all_cons (need_if fun _ => rfl) (all_cons (need_if fun _ => rfl) all_nil)) (callg_step rfl (fun hg => ⟨trivial, evs_nil ?_⟩) (fun hg => evs_nil ?_))
              · have hg : inRg d 1 100 = true := hg
                have := hdone (inRg d 1 100 && inRg n 0 d) rfl
                rw [hg, Bool.true_and] at this
                show K [_, _, (if toB (Value.bool (inRg d 1 100)) = true then Value.bool (inRg n 0 d) else Value.bool false), _]
                rw [hg]
                exact this
              · have hg : inRg d 1 100 = false := hg
                have := hdone (inRg d 1 100 && inRg n 0 d) rfl
                rw [hg, Bool.false_and] at this
                show K [_, _, (if toB (Value.bool (inRg d 1 100)) = true then _ else Value.bool false), _]
                rw [hg]
                exact this
            · have e2 : Value.bool ((ns.length : Int) == 2) = .bool false := (heq 2).trans (congrArg Value.bool (decide_eq_false h2))
              have g0 : ¬ toB (Value.bool ((ns.length : Int) == 2)) = true := by rw [e2]; simp
              refine evs_step (need_step (all_cons (need_if fun h => absurd h g0) (all_cons (need_if fun h => absurd h g0) (all_cons (need_if fun h => absurd h g0) all_nil))) (need_step (all_cons (need_if fun h => absurd h g0) all_nil) (callg_step rfl (fun h => absurd h g0) (fun _ => ?_))))
              have g1 : ∀ v : Value, ¬ toB (if toB (Value.bool ((ns.length : Int) == 2)) = true then v else Value.bool false) = true := by
                intro v
                rw [if_neg g0]
                simp
              refine need_step (all_cons (need_if fun h => absurd h (g1 _)) (all_cons (need_if fun h => absurd h (g1 _)) all_nil)) (callg_step rfl (fun h => absurd h (g1 _)) (fun _ => evs_nil ?_))
              show K [_, _, (if toB (if toB (Value.bool ((ns.length : Int) == 2)) = true then undef else Value.bool false) = true then undef else Value.bool false), _]
              rw [if_neg (g1 _)]
              exact hdone false (ok_len2 (by simp) h2)
          · refine ite_f rfl (ite_f rfl (ite_f rfl (ite_f rfl (ite_t rfl ?_))))
            by_cases h2 : ns.length = 2
            · obtain ⟨n, d, rfl⟩ := two_list h2
              refine evs_step (need_step (all_cons (need_if fun _ => rfl) (all_cons (need_if fun _ => rfl) (all_cons (need_if fun _ => rfl) all_nil))) (need_step (all_cons (need_if fun _ => rfl) all_nil) (callg_step rfl (fun _ => ⟨trivial, ?_⟩) (fun hg => (by cases hg)))))
              refine need_step (all_cons (need_if fun _ => rfl) (all_cons (need_if fun _ => rfl) all_nil)) (callg_step rfl (fun hg => ⟨trivial, evs_nil ?_⟩) (fun hg => evs_nil ?_))
              · have hg : inRg d 1 100 = true := hg
                have := hdone (inRg d 1 100 && inRg n 0 d) rfl
                rw [hg, Bool.true_and] at this
                show K [_, _, (if toB (Value.bool (inRg d 1 100)) = true then Value.bool (inRg n 0 d) else Value.bool false), _]
                rw [hg]
                exact this
              · have hg : inRg d 1 100 = false := hg
                have := hdone (inRg d 1 100 && inRg n 0 d) rfl
                rw [hg, Bool.false_and] at this
                show K [_, _, (if toB (Value.bool (inRg d 1 100)) = true then _ else Value.bool false), _]
                rw [hg]
                exact this
            · have e2 : Value.bool ((ns.length : Int) == 2) = .bool false := (heq 2).trans (congrArg Value.bool (decide_eq_false h2))
              have g0 : ¬ toB (Value.bool ((ns.length : Int) == 2)) = true := by rw [e2]; simp
              refine evs_step (need_step (all_cons (need_if fun h => absurd h g0) (all_cons (need_if fun h => absurd h g0) (all_cons (need_if fun h => absurd h g0) all_nil))) (need_step (all_cons (need_if fun h => absurd h g0) all_nil) (callg_step rfl (fun h => absurd h g0) (fun _ => ?_))))
              have g1 : ∀ v : Value, ¬ toB (if toB (Value.bool ((ns.length : Int) == 2)) = true then v else Value.bool false) = true := by
                intro v
                rw [if_neg g0]
                simp
              refine need_step (all_cons (need_if fun h => absurd h (g1 _)) (all_cons (need_if fun h => absurd h (g1 _)) all_nil)) (callg_step rfl (fun h => absurd h (g1 _)) (fun _ => evs_nil ?_))
              show K [_, _, (if toB (if toB (Value.bool ((ns.length : Int) == 2)) = true then undef else Value.bool false) = true then undef else Value.bool false), _]
              rw [if_neg (g1 _)]
              exact hdone false (ok_len2 (by simp) h2)
          · exact ite_f (beq_f k1) (ite_f (beq_f k2) (ite_f (beq_f k3) (ite_f (beq_f k4) (ite_f (beq_f k5) (hdone false (ok_other k1 k2 k3 k4 k5))))))
def tr_l7Bench : Tr :=
  (.evs [.app (.val (.agg #[])) 2 (.cells [])]
  (.ite (.seq (.var 0) (.val (.string ⟨#[]⟩)))
  (.ret [(.var 1), (.bool true), (.val (.agg #[]))])
  (.ite (.cmp .gtr (.len (.var 0)) (.int .i64 300))
   (.ret [(.var 1), (.bool false), (.val (.agg #[]))])
   (.evs [.call 0 [(.var 0), (.int .u8 32)] none 2]
    (.lp 0 [(.int .i64 0), (.var 1), (.val (.agg #[]))] [.int .i64, .sl, .rowC [.int .u8, .fat .i64 1]]
    (.ite (.cmp .lss (.var 5) (.len (.var 3)))
     (.evs [.need [(.inb (.var 4) (.var 5) 1)],
        .call 1 [(.sel (.var 4) (.var 5) 1 0)] none 4]
      (.ite (.not (.var 10))
      (.ret [(.var 6), (.bool false), (.var 7)])
      (.evs [.app (.var 7) 2 (.cells [(.var 8), (.fat (.var 9) (.var 11))])]
       (.next 0 [(.ar .add .i64 (.var 5) (.int .i64 1)), (.var 12), (.var 13)]))))
     (.ret [(.var 6), (.cmp .leq (.len (.var 6)) (.int .i64 12)), (.var 7)])))))))
def Ss_l7Bench : List Spec := [SP_l7Cut, SP_l7One]
def SP_l7Bench : Spec := SP_sb
set_option maxHeartbeats 1000000 in
theorem sat_l7Bench (P : Program) (ins : List Value) (K : List Value → Prop) (_ : TypedL [.str] ins) (h : SP_l7Bench ins K) : sat P Ss_l7Bench tr_l7Bench ins [] K := by
  obtain ⟨s, rfl, hK⟩ := h
  have hlen : lenV (bv s) = (s.length : Int) := len_bv s
  have hno : benchW s = none → ∀ x c, K [x, .bool false, c] := by
    intro hn
    rw [hn] at hK
    exact hK
  refine evs_step (app_empty (by omega) fun a1 cap1 => evs_nil ?_)
  refine ⟨fun hc => ?_, fun hc => ?_⟩
  · have hc : Value.bool ((strV (bv s)).toList == (strV (bv [])).toList) = .bool true := hc
    rw [seq_bv] at hc
    have hs := bt_of hc
    subst hs
    exact hK a1 0 cap1 [] rfl (fun p hp => by cases hp) rfl
  · have hc : Value.bool ((strV (bv s)).toList == (strV (bv [])).toList) = .bool false := hc
    rw [seq_bv] at hc
    have hs := bf_of hc
    clear hc
    refine ⟨fun hc => ?_, fun hc => ?_⟩
    · have hc : Value.bool (decide (lenV (bv s) > 300)) = .bool true := hc
      rw [hlen] at hc
      have hgt := bt_of hc
      refine hno ?_ _ _
      cases hb : benchW s with
      | none => rfl
      | some ps => have := benchW_length hb; omega
    · have hc : Value.bool (decide (lenV (bv s) > 300)) = .bool false := hc
      rw [hlen] at hc
      have hle := bf_of hc
      refine evs_step (call_step rfl ⟨s, 32, rfl, by omega, fun a2 len2 cap2 hl2 => evs_nil ?_⟩)
      subst hl2
      have hcc := cut_count 32 s
      refine ⟨fun vs => ∃ (i : Nat) (a : Option Addr) (cap : Nat) (l : List PV), vs = [.int .i64 i, .slice a i cap, rowL l] ∧ i ≤ (cut 32 s).length ∧ pcsW ((cut 32 s).take i) = some (l.map Prod.fst) ∧ (∀ p ∈ l, SlOk p), fun vs => (cut 32 s).length - (toI (vs.getD 0 undef)).toNat, ?_, ?_⟩
      · exact ⟨0, a1, cap1, [], rfl, Nat.zero_le _, rfl, fun p hp => by cases hp⟩
      · rintro vs hty ⟨i, a, cap, l, rfl, hi, hps, hok⟩
        have hnl : l.length = i := by
          have := (pcsW_length hps).1
          simp at this; omega
        refine ⟨fun hc => ?_, fun hc => ?_⟩
        · have hlt : i < (cut 32 s).length := by
            have hc : Value.bool (decide ((i : Int) < ((cut 32 s).length : Int))) = .bool true := hc
            have := bt_of hc; omega
          have hx := List.getElem?_eq_getElem hlt
          have hw : IntKind.i64.wrap ((i : Int) + 1) = ((i + 1 : Nat) : Int) := by rw [wrap_in (by omega)]; omega
          have htk : (cut 32 s).take (i + 1) = (cut 32 s).take i ++ [(cut 32 s)[i]] := by rw [List.take_add_one, hx]; rfl
          have hwl := cut_len 32 s _ (List.getElem_mem hlt)
          have hsn := pcsW_snoc (w := (cut 32 s)[i]) (ws := (cut 32 s).take i)
          rw [hps] at hsn
          refine evs_step (need_step (all_cons (inb_true (c := rowS (cut 32 s)) (i := i) (n := 1) (by simp [rowS_cells]; omega)) all_nil) (call_step rfl ?_))
          refine ⟨(cut 32 s)[i], ?_, by omega, ?_⟩
          · show [(rowS (cut 32 s)).cells.getD (((i : Int)).toNat * 1 + 0) undef] = _
            rw [Int.toNat_natCast, rowS_get hx]
          rw [pieceW_same]
          cases hv : pieceW num (cut 32 s)[i] with
          | none =>
            intro k x c
            refine evs_nil (ite_t rfl ?_)
            refine hno ?_ _ _
            have : pcsW (cut 32 s) = none := pcsW_none hv (List.getElem_mem hlt)
            unfold benchW
            rw [if_neg hs, this]
          | some p =>
            obtain ⟨k, ns⟩ := p
            rw [hv] at hsn
            have hsn : pcsW ((cut 32 s).take i ++ [(cut 32 s)[i]]) = some (l.map Prod.fst ++ [⟨k, ns, (cut 32 s)[i]⟩]) := hsn
            intro a3 len3 cap3 hl3
            subst hl3
            refine evs_nil (ite_f rfl ?_)
            refine evs_step (app_step (xs := l.flatMap cL) (ys := cL (⟨k, ns, (cut 32 s)[i]⟩, .slice a3 ns.length cap3)) rfl rfl (by rw [flat_length (n := 2) (fun _ => rfl)]; simp [cL]; omega) fun a4 len4 cap4 _ hl4 => evs_nil ?_)
            have hl4 : len4 = i + 1 := by rw [flat_length (n := 2) (fun _ => rfl)] at hl4; simp [cL] at hl4; omega
            subst hl4
            refine ⟨⟨i + 1, a4, cap4, l ++ [(⟨k, ns, (cut 32 s)[i]⟩, .slice a3 ns.length cap3)], ?_, hlt, by rw [htk, hsn]; simp, fun p hp => ?_⟩, ?_⟩
            · rw [← rowL_snoc]
              show [Value.int .i64 (IntKind.i64.wrap ((i : Int) + 1)), .slice a4 (i + 1) cap4, Value.agg (l.flatMap cL ++ cL (⟨k, ns, (cut 32 s)[i]⟩, .slice a3 ns.length cap3)).toArray] = _
              rw [hw]
            · rcases List.mem_append.1 hp with hp | hp
              · exact hok p hp
              · rw [List.mem_singleton.1 hp]
                exact ⟨a3, cap3, rfl⟩
            · show (cut 32 s).length - (IntKind.i64.wrap ((i : Int) + 1)).toNat < (cut 32 s).length - ((i : Int)).toNat
              rw [hw, Int.toNat_natCast, Int.toNat_natCast]
              omega
        · have hge : i = (cut 32 s).length := by
            have hc : Value.bool (decide ((i : Int) < ((cut 32 s).length : Int))) = .bool false := hc
            have := bf_of hc; omega
          rw [hge, List.take_length] at hps
          show K [.slice a i cap, .bool (decide ((i : Int) ≤ 12)), rowL l]
          unfold benchW at hK
          rw [if_neg hs, hps] at hK
          dsimp only at hK
          rw [List.length_map, hnl] at hK
          by_cases h12 : i ≤ 12
          · rw [if_pos h12] at hK
            rw [decide_eq_true (by omega)]
            exact hK a i cap l rfl hok (by simp [hnl])
          · rw [if_neg h12] at hK
            rw [decide_eq_false (by omega)]
            exact hK _ _
def tr_readPiece : Tr :=
  (.ite (.seq (.var 0) (.val (.string ⟨#[]⟩)))
  (.ret [(.int .u8 0), (.val (.slice none 0 0)), (.var 0), (.bool false), (.val (.agg #[]))])
  (.evs [.need [(.bool true), (.cmp .lss (.int .i64 0) (.len (.var 0)))]]
   (.evs [.need [(.bool true), (.cmp .leq (.int .i64 1) (.len (.var 0))), (.cmp .leq (.len (.var 0)) (.len (.var 0)))],
     .call 0 [(.ssub (.var 0) (.int .i64 1) (.len (.var 0))), (.val (.string ⟨#[58]⟩))] none 2]
   (.lp 0 [(.int .i64 0), (.val (.slice none 0 0)), (.val (.agg #[]))] [.int .i64, .sl, .row .i64 1]
   (.ite (.cmp .lss (.var 3) (.len (.var 1)))
    (.evs [.need [(.inb (.var 2) (.var 3) 1)]]
     (.evs [.call 1 [(.sel (.var 2) (.var 3) 1 0)] none 2]
     (.ite (.not (.var 7))
     (.ret [(.sidx (.var 0) (.int .i64 0)), (.var 4), (.var 0), (.bool false), (.var 5)])
     (.evs [.app (.var 5) 1 (.cells [(.var 6)])]
      (.next 0 [(.ar .add .i64 (.var 3) (.int .i64 1)), (.var 8), (.var 9)])))))
    (.ite (.cmp .eql (.sidx (.var 0) (.int .i64 0)) (.int .u8 119))
     (.ite (.cmp .neq (.len (.var 4)) (.int .i64 3))
      (.ret [(.sidx (.var 0) (.int .i64 0)), (.var 4), (.var 0), (.bool false), (.var 5)])
      (.evs [.need [(.inb (.var 5) (.int .i64 0) 1), (.inb (.var 5) (.int .i64 1) 1)],
         .need [(.inb (.var 5) (.int .i64 0) 1), (.inb (.var 5) (.int .i64 1) 1)],
         .call 2 [(.sel (.var 5) (.int .i64 0) 1 0), (.sel (.var 5) (.int .i64 1) 1 0)] none 7]
       (.ite (.cmp .eql (.sidx (.var 0) (.int .i64 0)) (.int .u8 114))
       (.ite (.cmp .eql (.sidx (.var 0) (.int .i64 0)) (.int .u8 114))
        (.ret [(.sidx (.var 0) (.int .i64 0)), (.var 4), (.var 0), (.var 12), (.var 5)])
        (.ite (.cmp .eql (.sidx (.var 0) (.int .i64 0)) (.int .u8 119))
         (.evs [.need [(.ite (.var 12) (.inb (.var 5) (.int .i64 2) 1) (.bool true))],
            .need [(.ite (.var 12) (.inb (.var 5) (.int .i64 2) 1) (.bool true))],
            .call 3 [(.sel (.var 5) (.int .i64 2) 1 0), (.int .i64 0), (.int .i64 3)] (some (.var 12)) 1]
          (.ret [(.sidx (.var 0) (.int .i64 0)), (.var 4), (.var 0), (.ite (.var 12) (.var 13) (.bool false)), (.var 5)]))
         (.ite (.cmp .eql (.sidx (.var 0) (.int .i64 0)) (.int .u8 97))
          (.ite (.cmp .eql (.sidx (.var 0) (.int .i64 0)) (.int .u8 97))
           (.evs [.need [(.inb (.var 5) (.int .i64 1) 1)],
              .call 3 [(.sel (.var 5) (.int .i64 1) 1 0), (.int .i64 1), (.int .i64 100)] none 1,
              .need [(.ite (.var 13) (.inb (.var 5) (.int .i64 0) 1) (.bool true)), (.ite (.var 13) (.inb (.var 5) (.int .i64 1) 1) (.bool true))],
              .call 3 [(.sel (.var 5) (.int .i64 0) 1 0), (.int .i64 0), (.sel (.var 5) (.int .i64 1) 1 0)] (some (.var 13)) 1]
            (.ret [(.sidx (.var 0) (.int .i64 0)), (.var 4), (.var 0), (.ite (.var 13) (.var 14) (.bool false)), (.var 5)]))
           (.ret [(.sidx (.var 0) (.int .i64 0)), (.var 4), (.var 0), (.bool false), (.var 5)]))
          (.ite (.cmp .eql (.sidx (.var 0) (.int .i64 0)) (.int .u8 100))
           (.evs [.need [(.inb (.var 5) (.int .i64 1) 1)],
              .call 3 [(.sel (.var 5) (.int .i64 1) 1 0), (.int .i64 1), (.int .i64 100)] none 1,
              .need [(.ite (.var 13) (.inb (.var 5) (.int .i64 0) 1) (.bool true)), (.ite (.var 13) (.inb (.var 5) (.int .i64 1) 1) (.bool true))],
              .call 3 [(.sel (.var 5) (.int .i64 0) 1 0), (.int .i64 0), (.sel (.var 5) (.int .i64 1) 1 0)] (some (.var 13)) 1]
            (.ret [(.sidx (.var 0) (.int .i64 0)), (.var 4), (.var 0), (.ite (.var 13) (.var 14) (.bool false)), (.var 5)]))
           (.ret [(.sidx (.var 0) (.int .i64 0)), (.var 4), (.var 0), (.bool false), (.var 5)])))))
       (.ite (.cmp .eql (.sidx (.var 0) (.int .i64 0)) (.int .u8 102))
        (.ret [(.sidx (.var 0) (.int .i64 0)), (.var 4), (.var 0), (.var 12), (.var 5)])
        (.ite (.cmp .eql (.sidx (.var 0) (.int .i64 0)) (.int .u8 119))
         (.evs [.need [(.ite (.var 12) (.inb (.var 5) (.int .i64 2) 1) (.bool true))],
            .need [(.ite (.var 12) (.inb (.var 5) (.int .i64 2) 1) (.bool true))],
            .call 3 [(.sel (.var 5) (.int .i64 2) 1 0), (.int .i64 0), (.int .i64 3)] (some (.var 12)) 1]
          (.ret [(.sidx (.var 0) (.int .i64 0)), (.var 4), (.var 0), (.ite (.var 12) (.var 13) (.bool false)), (.var 5)]))
         (.ite (.cmp .eql (.sidx (.var 0) (.int .i64 0)) (.int .u8 97))
          (.ite (.cmp .eql (.sidx (.var 0) (.int .i64 0)) (.int .u8 97))
           (.evs [.need [(.inb (.var 5) (.int .i64 1) 1)],
              .call 3 [(.sel (.var 5) (.int .i64 1) 1 0), (.int .i64 1), (.int .i64 100)] none 1,
              .need [(.ite (.var 13) (.inb (.var 5) (.int .i64 0) 1) (.bool true)), (.ite (.var 13) (.inb (.var 5) (.int .i64 1) 1) (.bool true))],
              .call 3 [(.sel (.var 5) (.int .i64 0) 1 0), (.int .i64 0), (.sel (.var 5) (.int .i64 1) 1 0)] (some (.var 13)) 1]
            (.ret [(.sidx (.var 0) (.int .i64 0)), (.var 4), (.var 0), (.ite (.var 13) (.var 14) (.bool false)), (.var 5)]))
           (.ret [(.sidx (.var 0) (.int .i64 0)), (.var 4), (.var 0), (.bool false), (.var 5)]))
          (.ite (.cmp .eql (.sidx (.var 0) (.int .i64 0)) (.int .u8 100))
           (.evs [.need [(.inb (.var 5) (.int .i64 1) 1)],
              .call 3 [(.sel (.var 5) (.int .i64 1) 1 0), (.int .i64 1), (.int .i64 100)] none 1,
              .need [(.ite (.var 13) (.inb (.var 5) (.int .i64 0) 1) (.bool true)), (.ite (.var 13) (.inb (.var 5) (.int .i64 1) 1) (.bool true))],
              .call 3 [(.sel (.var 5) (.int .i64 0) 1 0), (.int .i64 0), (.sel (.var 5) (.int .i64 1) 1 0)] (some (.var 13)) 1]
            (.ret [(.sidx (.var 0) (.int .i64 0)), (.var 4), (.var 0), (.ite (.var 13) (.var 14) (.bool false)), (.var 5)]))
           (.ret [(.sidx (.var 0) (.int .i64 0)), (.var 4), (.var 0), (.bool false), (.var 5)]))))))))
     (.ite (.cmp .neq (.len (.var 4)) (.int .i64 2))
      (.ret [(.sidx (.var 0) (.int .i64 0)), (.var 4), (.var 0), (.bool false), (.var 5)])
      (.evs [.need [(.inb (.var 5) (.int .i64 0) 1), (.inb (.var 5) (.int .i64 1) 1)],
         .need [(.inb (.var 5) (.int .i64 0) 1), (.inb (.var 5) (.int .i64 1) 1)],
         .call 2 [(.sel (.var 5) (.int .i64 0) 1 0), (.sel (.var 5) (.int .i64 1) 1 0)] none 7]
       (.ite (.cmp .eql (.sidx (.var 0) (.int .i64 0)) (.int .u8 114))
       (.ite (.cmp .eql (.sidx (.var 0) (.int .i64 0)) (.int .u8 114))
        (.ret [(.sidx (.var 0) (.int .i64 0)), (.var 4), (.var 0), (.var 12), (.var 5)])
        (.ite (.cmp .eql (.sidx (.var 0) (.int .i64 0)) (.int .u8 119))
         (.evs [.need [(.ite (.var 12) (.inb (.var 5) (.int .i64 2) 1) (.bool true))],
            .need [(.ite (.var 12) (.inb (.var 5) (.int .i64 2) 1) (.bool true))],
            .call 3 [(.sel (.var 5) (.int .i64 2) 1 0), (.int .i64 0), (.int .i64 3)] (some (.var 12)) 1]
          (.ret [(.sidx (.var 0) (.int .i64 0)), (.var 4), (.var 0), (.ite (.var 12) (.var 13) (.bool false)), (.var 5)]))
         (.ite (.cmp .eql (.sidx (.var 0) (.int .i64 0)) (.int .u8 97))
          (.ite (.cmp .eql (.sidx (.var 0) (.int .i64 0)) (.int .u8 97))
           (.evs [.need [(.inb (.var 5) (.int .i64 1) 1)],
              .call 3 [(.sel (.var 5) (.int .i64 1) 1 0), (.int .i64 1), (.int .i64 100)] none 1,
              .need [(.ite (.var 13) (.inb (.var 5) (.int .i64 0) 1) (.bool true)), (.ite (.var 13) (.inb (.var 5) (.int .i64 1) 1) (.bool true))],
              .call 3 [(.sel (.var 5) (.int .i64 0) 1 0), (.int .i64 0), (.sel (.var 5) (.int .i64 1) 1 0)] (some (.var 13)) 1]
            (.ret [(.sidx (.var 0) (.int .i64 0)), (.var 4), (.var 0), (.ite (.var 13) (.var 14) (.bool false)), (.var 5)]))
           (.ret [(.sidx (.var 0) (.int .i64 0)), (.var 4), (.var 0), (.bool false), (.var 5)]))
          (.ite (.cmp .eql (.sidx (.var 0) (.int .i64 0)) (.int .u8 100))
           (.evs [.need [(.inb (.var 5) (.int .i64 1) 1)],
              .call 3 [(.sel (.var 5) (.int .i64 1) 1 0), (.int .i64 1), (.int .i64 100)] none 1,
              .need [(.ite (.var 13) (.inb (.var 5) (.int .i64 0) 1) (.bool true)), (.ite (.var 13) (.inb (.var 5) (.int .i64 1) 1) (.bool true))],
              .call 3 [(.sel (.var 5) (.int .i64 0) 1 0), (.int .i64 0), (.sel (.var 5) (.int .i64 1) 1 0)] (some (.var 13)) 1]
            (.ret [(.sidx (.var 0) (.int .i64 0)), (.var 4), (.var 0), (.ite (.var 13) (.var 14) (.bool false)), (.var 5)]))
           (.ret [(.sidx (.var 0) (.int .i64 0)), (.var 4), (.var 0), (.bool false), (.var 5)])))))
       (.ite (.cmp .eql (.sidx (.var 0) (.int .i64 0)) (.int .u8 102))
        (.ret [(.sidx (.var 0) (.int .i64 0)), (.var 4), (.var 0), (.var 12), (.var 5)])
        (.ite (.cmp .eql (.sidx (.var 0) (.int .i64 0)) (.int .u8 119))
         (.evs [.need [(.ite (.var 12) (.inb (.var 5) (.int .i64 2) 1) (.bool true))],
            .need [(.ite (.var 12) (.inb (.var 5) (.int .i64 2) 1) (.bool true))],
            .call 3 [(.sel (.var 5) (.int .i64 2) 1 0), (.int .i64 0), (.int .i64 3)] (some (.var 12)) 1]
          (.ret [(.sidx (.var 0) (.int .i64 0)), (.var 4), (.var 0), (.ite (.var 12) (.var 13) (.bool false)), (.var 5)]))
         (.ite (.cmp .eql (.sidx (.var 0) (.int .i64 0)) (.int .u8 97))
          (.ite (.cmp .eql (.sidx (.var 0) (.int .i64 0)) (.int .u8 97))
           (.evs [.need [(.inb (.var 5) (.int .i64 1) 1)],
              .call 3 [(.sel (.var 5) (.int .i64 1) 1 0), (.int .i64 1), (.int .i64 100)] none 1,
              .need [(.ite (.var 13) (.inb (.var 5) (.int .i64 0) 1) (.bool true)), (.ite (.var 13) (.inb (.var 5) (.int .i64 1) 1) (.bool true))],
              .call 3 [(.sel (.var 5) (.int .i64 0) 1 0), (.int .i64 0), (.sel (.var 5) (.int .i64 1) 1 0)] (some (.var 13)) 1]
            (.ret [(.sidx (.var 0) (.int .i64 0)), (.var 4), (.var 0), (.ite (.var 13) (.var 14) (.bool false)), (.var 5)]))
           (.ret [(.sidx (.var 0) (.int .i64 0)), (.var 4), (.var 0), (.bool false), (.var 5)]))
          (.ite (.cmp .eql (.sidx (.var 0) (.int .i64 0)) (.int .u8 100))
           (.evs [.need [(.inb (.var 5) (.int .i64 1) 1)],
              .call 3 [(.sel (.var 5) (.int .i64 1) 1 0), (.int .i64 1), (.int .i64 100)] none 1,
              .need [(.ite (.var 13) (.inb (.var 5) (.int .i64 0) 1) (.bool true)), (.ite (.var 13) (.inb (.var 5) (.int .i64 1) 1) (.bool true))],
              .call 3 [(.sel (.var 5) (.int .i64 0) 1 0), (.int .i64 0), (.sel (.var 5) (.int .i64 1) 1 0)] (some (.var 13)) 1]
            (.ret [(.sidx (.var 0) (.int .i64 0)), (.var 4), (.var 0), (.ite (.var 13) (.var 14) (.bool false)), (.var 5)]))
           (.ret [(.sidx (.var 0) (.int .i64 0)), (.var 4), (.var 0), (.bool false), (.var 5)]))))))))))))))
def Ss_readPiece : List Spec := [SP_Split, SP_plainNumber, G_direction.spec, G_within.spec]
def SP_readPiece : Spec := SP_rp
set_option maxHeartbeats 2000000 in
theorem sat_readPiece (P : Program) (ins : List Value) (K : List Value → Prop) (_ : TypedL [.str] ins) (h : SP_readPiece ins K) : sat P Ss_readPiece tr_readPiece ins [] K := by
  obtain ⟨s, rfl, hl, hK⟩ := h
  have hlen : lenV (bv s) = (s.length : Int) := len_bv s
  have hno : pieceW num s = none → ∀ k x t c, K [k, x, t, .bool false, c] := by
    intro hn
    rw [hn] at hK
    exact hK
  refine ⟨fun hc => ?_, fun hc => ?_⟩
  · have hc : Value.bool ((strV (bv s)).toList == (strV (bv [])).toList) = .bool true := hc
    rw [seq_bv] at hc
    have hs := bt_of hc
    subst hs
    exact hno rfl _ _ _ _
  · have hc : Value.bool ((strV (bv s)).toList == (strV (bv [])).toList) = .bool false := hc
    rw [seq_bv] at hc
    have hs := bf_of hc
    obtain ⟨k, r, rfl⟩ : ∃ k r, s = k :: r := by
      cases s with
      | nil => exact absurd rfl hs
      | cons k r => exact ⟨k, r, rfl⟩
    have h0l : Value.bool (decide (0 < lenV (bv (k :: r)))) = .bool true := by
      rw [hlen]
      exact bt (by simp only [List.length_cons]; omega)
    refine evs_step (need_step (all_cons rfl (all_cons h0l all_nil)) (evs_nil ?_))
    refine evs_step (need_step (all_cons rfl (all_cons ?_ (all_cons ?_ all_nil))) (call_step rfl ?_))
    · show Value.bool (decide (1 ≤ lenV (bv (k :: r)))) = _
      rw [hlen]
      exact bt (by simp only [List.length_cons]; omega)
    · show Value.bool (decide (lenV (bv (k :: r)) ≤ lenV (bv (k :: r)))) = _
      exact bt (Int.le_refl _)
    · refine ⟨r, 58, ?_, by simp at hl; omega, fun a2 len2 cap2 hl2 => evs_nil ?_⟩
      · show [Value.string ((strV (bv (k :: r))).extract 1 (lenV (bv (k :: r))).toNat), bv [58]] = _
        rw [extract_bv, hlen]
        simp
      subst hl2
      refine ⟨fun vs => ∃ (i : Nat) (a : Option Addr) (cap : Nat) (ns : List Int), vs = [.int .i64 i, .slice a i cap, rowI ns] ∧ i ≤ (cut 58 r).length ∧ numsW num ((cut 58 r).take i) = some ns, fun vs => (cut 58 r).length - (toI (vs.getD 0 undef)).toNat, ?_, ?_⟩
      · exact ⟨0, none, 0, [], rfl, Nat.zero_le _, rfl⟩
      · rintro vs hty ⟨i, a, cap, ns, rfl, hi, hns⟩
        have hnl : ns.length = i := by
          rw [numsW_length hns]; simp; omega
        have hcc := cut_count 58 r
        refine ⟨fun hc => ?_, fun hc => ?_⟩
        · have hlt : i < (cut 58 r).length := by
            have hc : Value.bool (decide ((i : Int) < ((cut 58 r).length : Int))) = .bool true := hc
            have := bt_of hc; omega
          have hx := List.getElem?_eq_getElem hlt
          have hw : IntKind.i64.wrap ((i : Int) + 1) = ((i + 1 : Nat) : Int) := by rw [wrap_in (by simp at hl; omega)]; omega
          have htk : (cut 58 r).take (i + 1) = (cut 58 r).take i ++ [(cut 58 r)[i]] := by rw [List.take_add_one, hx]; rfl
          have hwl := cut_len 58 r _ (List.getElem_mem hlt)
          have hsn := numsW_snoc (nm := num) (w := (cut 58 r)[i]) (ws := (cut 58 r).take i)
          rw [hns] at hsn
          refine evs_step (need_step (all_cons (inb_true (c := rowS (cut 58 r)) (i := i) (n := 1) (by simp [rowS_cells]; omega)) all_nil) (evs_nil ?_))
          refine evs_step (call_step rfl ?_)
          refine ⟨(cut 58 r)[i], ?_, by simp at hl; omega, ?_⟩
          · show [(rowS (cut 58 r)).cells.getD (((i : Int)).toNat * 1 + 0) undef] = _
            rw [Int.toNat_natCast, rowS_get hx]
          cases hv : num (cut 58 r)[i] with
          | none =>
            intro z _
            refine evs_nil (ite_t rfl ?_)
            refine hno ?_ _ _ _ _
            have : numsW num (cut 58 r) = none := numsW_none hv (List.getElem_mem hlt)
            simp only [pieceW, this]
          | some n =>
            rw [hv] at hsn
            have hsn : numsW num ((cut 58 r).take i ++ [(cut 58 r)[i]]) = some (ns ++ [n]) := hsn
            refine evs_nil (ite_f rfl ?_)
            refine evs_step (app_step (xs := intVals ns) (ys := [.int .i64 n]) rfl rfl (by rw [intVals_map]; simp; simp at hl; omega) fun a3 len3 cap3 _ hl3 => evs_nil ?_)
            have hl3 : len3 = i + 1 := by rw [intVals_map] at hl3; simp at hl3; omega
            subst hl3
            refine ⟨⟨i + 1, a3, cap3, ns ++ [n], ?_, hlt, by rw [htk]; exact hsn⟩, ?_⟩
            · rw [← rowI_snoc]
              show [Value.int .i64 (IntKind.i64.wrap ((i : Int) + 1)), .slice a3 (i + 1) cap3, Value.agg (intVals ns ++ [Value.int .i64 n]).toArray] = _
              rw [hw]
            · show (cut 58 r).length - (IntKind.i64.wrap ((i : Int) + 1)).toNat < (cut 58 r).length - ((i : Int)).toNat
              rw [hw, Int.toNat_natCast, Int.toNat_natCast]
              omega
        · have hge : i = (cut 58 r).length := by
            have hc : Value.bool (decide ((i : Int) < ((cut 58 r).length : Int))) = .bool false := hc
            have := bf_of hc; omega
          have hns2 : numsW num (cut 58 r) = some ns := by
            rw [← hns, hge, List.take_length]
          have hdone : ∀ b, okPiece k ns = b → K [u8 k, .slice a i cap, bv (k :: r), .bool b, rowI ns] := by
            intro b hb
            simp only [pieceW, hns2, hb] at hK
            cases b with
            | true => exact hK a i cap hnl.symm
            | false => exact hK _ _ _ _
          clear hK hno hc hty hns hns2 hge hcc hi
          subst hnl
          have hneq : ∀ m : Nat, Value.bool ((ns.length : Int) != (m : Int)) = .bool (decide (ns.length ≠ m)) := by
            intro m
            congr 1
            by_cases e : ns.length = m
            · simp [e]
            · simp [e]; omega
          rcases k_cases k with rfl | rfl | rfl | rfl | rfl | ⟨k1, k2, k3, k4, k5⟩
          · refine ite_f rfl ?_
            by_cases h2 : ns.length = 2
            · obtain ⟨p, q, rfl⟩ := two_list h2
              refine ite_f rfl (evs_step (need_step (all_cons rfl (all_cons rfl all_nil)) (need_step (all_cons rfl (all_cons rfl all_nil)) (call_step rfl ⟨trivial, evs_nil ?_⟩))))
              refine ite_t rfl (ite_t rfl ?_)
              exact hdone (dirOk p q) rfl
            · exact ite_t ((hneq 2).trans (bt h2)) (hdone false (ok_len2 (by simp) h2))
          · refine ite_f rfl ?_
            by_cases h2 : ns.length = 2
            · obtain ⟨p, q, rfl⟩ := two_list h2
              refine ite_f rfl (evs_step (need_step (all_cons rfl (all_cons rfl all_nil)) (need_step (all_cons rfl (all_cons rfl all_nil)) (call_step rfl ⟨trivial, evs_nil ?_⟩))))
              refine ite_f rfl (ite_t rfl ?_)
              exact hdone (dirOk p q) rfl
            · exact ite_t ((hneq 2).trans (bt h2)) (hdone false (ok_len2 (by simp) h2))
          · refine ite_t rfl ?_
            by_cases h3 : ns.length = 3
            · obtain ⟨p, q, t, rfl⟩ := three_list h3
              refine ite_f rfl (evs_step (need_step (all_cons rfl (all_cons rfl all_nil)) (need_step (all_cons rfl (all_cons rfl all_nil)) (call_step rfl ⟨trivial, evs_nil ?_⟩))))
              refine ite_f rfl (ite_f rfl (ite_t rfl ?_))
              refine evs_step (need_step (all_cons (need_if fun _ => rfl) all_nil) (need_step (all_cons (need_if fun _ => rfl) all_nil) (callg_step rfl (fun hg => ⟨trivial, evs_nil ?_⟩) (fun hg => evs_nil ?_))))
              · have hg : dirOk p q = true := hg
                have := hdone (dirOk p q && inRg t 0 3) rfl
                rw [hg, Bool.true_and] at this
                show K [_, _, _, (if toB (Value.bool (dirOk p q)) = true then Value.bool (inRg t 0 3) else Value.bool false), _]
                rw [hg]
                exact this
              · have hg : dirOk p q = false := hg
                have := hdone (dirOk p q && inRg t 0 3) rfl
                rw [hg, Bool.false_and] at this
                show K [_, _, _, (if toB (Value.bool (dirOk p q)) = true then _ else Value.bool false), _]
                rw [hg]
                exact this
            · exact ite_t ((hneq 3).trans (bt h3)) (hdone false (ok_len3 h3))
          · refine ite_f rfl ?_
            by_cases h2 : ns.length = 2
            · obtain ⟨n, d, rfl⟩ := two_list h2
              refine ite_f rfl (evs_step (need_step (all_cons rfl (all_cons rfl all_nil)) (need_step (all_cons rfl (all_cons rfl all_nil)) (call_step rfl ⟨trivial, evs_nil ?_⟩))))
              refine ite_f rfl (ite_f rfl (ite_f rfl (ite_t rfl (ite_t rfl ?_))))
              refine evs_step (need_step (all_cons rfl all_nil) (call_step rfl ⟨trivial, ?_⟩))
              refine need_step (all_cons (need_if fun _ => rfl) (all_cons (need_if fun _ => rfl) all_nil)) (callg_step rfl (fun hg => ⟨trivial, evs_nil ?_⟩) (fun hg => evs_nil ?_))
              · have hg : inRg d 1 100 = true := hg
                have := hdone (inRg d 1 100 && inRg n 0 d) rfl
                rw [hg, Bool.true_and] at this
                show K [_, _, _, (if toB (Value.bool (inRg d 1 100)) = true then Value.bool (inRg n 0 d) else Value.bool false), _]
                rw [hg]
                exact this
              · have hg : inRg d 1 100 = false := hg
                have := hdone (inRg d 1 100 && inRg n 0 d) rfl
                rw [hg, Bool.false_and] at this
                show K [_, _, _, (if toB (Value.bool (inRg d 1 100)) = true then _ else Value.bool false), _]
                rw [hg]
                exact this
            · exact ite_t ((hneq 2).trans (bt h2)) (hdone false (ok_len2 (by simp) h2))
          · refine ite_f rfl ?_
            by_cases h2 : ns.length = 2
            · obtain ⟨n, d, rfl⟩ := two_list h2
              refine ite_f rfl (evs_step (need_step (all_cons rfl (all_cons rfl all_nil)) (need_step (all_cons rfl (all_cons rfl all_nil)) (call_step rfl ⟨trivial, evs_nil ?_⟩))))
              refine ite_f rfl (ite_f rfl (ite_f rfl (ite_f rfl (ite_t rfl ?_))))
              refine evs_step (need_step (all_cons rfl all_nil) (call_step rfl ⟨trivial, ?_⟩))
              refine need_step (all_cons (need_if fun _ => rfl) (all_cons (need_if fun _ => rfl) all_nil)) (callg_step rfl (fun hg => ⟨trivial, evs_nil ?_⟩) (fun hg => evs_nil ?_))
              · have hg : inRg d 1 100 = true := hg
                have := hdone (inRg d 1 100 && inRg n 0 d) rfl
                rw [hg, Bool.true_and] at this
                show K [_, _, _, (if toB (Value.bool (inRg d 1 100)) = true then Value.bool (inRg n 0 d) else Value.bool false), _]
                rw [hg]
                exact this
              · have hg : inRg d 1 100 = false := hg
                have := hdone (inRg d 1 100 && inRg n 0 d) rfl
                rw [hg, Bool.false_and] at this
                show K [_, _, _, (if toB (Value.bool (inRg d 1 100)) = true then _ else Value.bool false), _]
                rw [hg]
                exact this
            · exact ite_t ((hneq 2).trans (bt h2)) (hdone false (ok_len2 (by simp) h2))
          · refine ite_f (beq_f k3) ?_
            by_cases h2 : ns.length = 2
            · obtain ⟨p, q, rfl⟩ := two_list h2
              refine ite_f rfl (evs_step (need_step (all_cons rfl (all_cons rfl all_nil)) (need_step (all_cons rfl (all_cons rfl all_nil)) (call_step rfl ⟨trivial, evs_nil ?_⟩))))
              exact ite_f (beq_f k1) (ite_f (beq_f k2) (ite_f (beq_f k3) (ite_f (beq_f k4) (ite_f (beq_f k5) (hdone false (ok_other k1 k2 k3 k4 k5))))))
            · exact ite_t ((hneq 2).trans (bt h2)) (hdone false (ok_other k1 k2 k3 k4 k5))
def tr_readBench : Tr :=
  (.evs [.app (.val (.agg #[])) 3 (.cells [])]
  (.ite (.seq (.var 0) (.val (.string ⟨#[]⟩)))
  (.ret [(.var 1), (.bool true), (.val (.agg #[]))])
  (.evs [.call 0 [(.var 0), (.val (.string ⟨#[32]⟩))] none 2]
   (.lp 0 [(.int .i64 0), (.var 1), (.val (.agg #[]))] [.int .i64, .sl, .rowC [.int .u8, .fat .i64 1, .str]]
   (.ite (.cmp .lss (.var 5) (.len (.var 3)))
    (.evs [.need [(.inb (.var 4) (.var 5) 1)]]
     (.evs [.call 1 [(.sel (.var 4) (.var 5) 1 0)] none 5]
     (.ite (.ite (.not (.var 11)) (.bool true) (.cmp .eql (.len (.var 6)) (.int .i64 12)))
     (.ret [(.val (.slice none 0 0)), (.bool false), (.val (.agg #[]))])
     (.evs [.app (.var 7) 3 (.cells [(.var 8), (.fat (.var 9) (.var 12)), (.var 10)])]
      (.next 0 [(.ar .add .i64 (.var 5) (.int .i64 1)), (.var 13), (.var 14)])))))
    (.ret [(.var 6), (.bool true), (.var 7)]))))))
def Ss_readBench : List Spec := [SP_Split, SP_readPiece]
def SP_readBench : Spec := SP_ib
set_option maxHeartbeats 1000000 in
theorem sat_readBench (P : Program) (ins : List Value) (K : List Value → Prop) (_ : TypedL [.str] ins) (h : SP_readBench ins K) : sat P Ss_readBench tr_readBench ins [] K := by
  obtain ⟨s, rfl, hl, hK⟩ := h
  have hno : benchW s = none → K [.slice none 0 0, .bool false, .agg #[]] := by
    intro hn
    rw [hn] at hK
    exact hK
  refine evs_step (app_empty (by omega) fun a1 cap1 => evs_nil ?_)
  refine ⟨fun hc => ?_, fun hc => ?_⟩
  · have hc : Value.bool ((strV (bv s)).toList == (strV (bv [])).toList) = .bool true := hc
    rw [seq_bv] at hc
    have hs := bt_of hc
    subst hs
    exact hK a1 0 cap1 [] rfl (fun p hp => by cases hp) rfl
  · have hc : Value.bool ((strV (bv s)).toList == (strV (bv [])).toList) = .bool false := hc
    rw [seq_bv] at hc
    have hs := bf_of hc
    clear hc
    refine evs_step (call_step rfl ⟨s, 32, rfl, hl, fun a2 len2 cap2 hl2 => evs_nil ?_⟩)
    subst hl2
    have hcc := cut_count 32 s
    refine ⟨fun vs => ∃ (i : Nat) (a : Option Addr) (cap : Nat) (l : List PV), vs = [.int .i64 i, .slice a i cap, rowB l] ∧ i ≤ (cut 32 s).length ∧ i ≤ 12 ∧ pcsW ((cut 32 s).take i) = some (l.map Prod.fst) ∧ (∀ p ∈ l, SlOk p), fun vs => (cut 32 s).length - (toI (vs.getD 0 undef)).toNat, ?_, ?_⟩
    · exact ⟨0, a1, cap1, [], rfl, Nat.zero_le _, Nat.zero_le _, rfl, fun p hp => by cases hp⟩
    · rintro vs hty ⟨i, a, cap, l, rfl, hi, h12, hps, hok⟩
      have hnl : l.length = i := by
        have := (pcsW_length hps).1
        simp at this; omega
      refine ⟨fun hc => ?_, fun hc => ?_⟩
      · have hlt : i < (cut 32 s).length := by
          have hc : Value.bool (decide ((i : Int) < ((cut 32 s).length : Int))) = .bool true := hc
          have := bt_of hc; omega
        have hx := List.getElem?_eq_getElem hlt
        have hw : IntKind.i64.wrap ((i : Int) + 1) = ((i + 1 : Nat) : Int) := by rw [wrap_in (by omega)]; omega
        have htk : (cut 32 s).take (i + 1) = (cut 32 s).take i ++ [(cut 32 s)[i]] := by rw [List.take_add_one, hx]; rfl
        have hwl := cut_len 32 s _ (List.getElem_mem hlt)
        have hsn := pcsW_snoc (w := (cut 32 s)[i]) (ws := (cut 32 s).take i)
        rw [hps] at hsn
        refine evs_step (need_step (all_cons (inb_true (c := rowS (cut 32 s)) (i := i) (n := 1) (by simp [rowS_cells]; omega)) all_nil) (evs_nil ?_))
        refine evs_step (call_step rfl ?_)
        refine ⟨(cut 32 s)[i], ?_, by omega, ?_⟩
        · show [(rowS (cut 32 s)).cells.getD (((i : Int)).toNat * 1 + 0) undef] = _
          rw [Int.toNat_natCast, rowS_get hx]
        cases hv : pieceW num (cut 32 s)[i] with
        | none =>
          intro k x t c
          refine evs_nil (ite_t rfl ?_)
          refine hno ?_
          have : pcsW (cut 32 s) = none := pcsW_none hv (List.getElem_mem hlt)
          unfold benchW
          rw [if_neg hs, this]
        | some p =>
          obtain ⟨k, ns⟩ := p
          rw [hv] at hsn
          have hsn : pcsW ((cut 32 s).take i ++ [(cut 32 s)[i]]) = some (l.map Prod.fst ++ [⟨k, ns, (cut 32 s)[i]⟩]) := hsn
          intro a3 len3 cap3 hl3
          subst hl3
          refine evs_nil ?_
          by_cases hfull : i = 12
          · refine ite_t ?_ (hno ?_)
            · show (if toB (Value.bool (!true)) = true then Value.bool true else Value.bool ((i : Int) == 12)) = _
              rw [hfull]; rfl
            · unfold benchW
              rw [if_neg hs]
              cases hq : pcsW (cut 32 s) with
              | none => rfl
              | some q =>
                have := (pcsW_length hq).1
                dsimp only
                rw [if_neg (by omega)]
          · refine ite_f ?_ ?_
            · show (if toB (Value.bool (!true)) = true then Value.bool true else Value.bool ((i : Int) == 12)) = _
              rw [if_neg (by simp)]
              congr 1
              rw [beq_eq_false_iff_ne]
              omega
            refine evs_step (app_step (xs := l.flatMap cB) (ys := cB (⟨k, ns, (cut 32 s)[i]⟩, .slice a3 ns.length cap3)) rfl rfl (by rw [flat_length (n := 3) (fun _ => rfl)]; simp [cB]; omega) fun a4 len4 cap4 _ hl4 => evs_nil ?_)
            have hl4 : len4 = i + 1 := by rw [flat_length (n := 3) (fun _ => rfl)] at hl4; simp [cB] at hl4; omega
            subst hl4
            refine ⟨⟨i + 1, a4, cap4, l ++ [(⟨k, ns, (cut 32 s)[i]⟩, .slice a3 ns.length cap3)], ?_, hlt, by omega, by rw [htk, hsn]; simp, fun p hp => ?_⟩, ?_⟩
            · rw [← rowB_snoc]
              show [Value.int .i64 (IntKind.i64.wrap ((i : Int) + 1)), .slice a4 (i + 1) cap4, Value.agg (l.flatMap cB ++ cB (⟨k, ns, (cut 32 s)[i]⟩, .slice a3 ns.length cap3)).toArray] = _
              rw [hw]
            · rcases List.mem_append.1 hp with hp | hp
              · exact hok p hp
              · rw [List.mem_singleton.1 hp]
                exact ⟨a3, cap3, rfl⟩
            · show (cut 32 s).length - (IntKind.i64.wrap ((i : Int) + 1)).toNat < (cut 32 s).length - ((i : Int)).toNat
              rw [hw, Int.toNat_natCast, Int.toNat_natCast]
              omega
      · have hge : i = (cut 32 s).length := by
          have hc : Value.bool (decide ((i : Int) < ((cut 32 s).length : Int))) = .bool false := hc
          have := bf_of hc; omega
        rw [hge, List.take_length] at hps
        unfold benchW at hK
        rw [if_neg hs, hps] at hK
        dsimp only at hK
        rw [List.length_map, hnl, if_pos h12] at hK
        exact hK a i cap l rfl hok (by simp [hnl])
def tr_writeBench : Tr :=
  (.evs [.app (.val (.agg #[])) 1 (.cells [])]
  (.lp 0 [(.int .i64 0), (.var 2), (.val (.agg #[]))] [.int .i64, .sl, .rowC [.str]]
  (.ite (.cmp .lss (.var 4) (.len (.var 0)))
   (.evs [.need [(.inb (.var 1) (.var 4) 3)]]
    (.evs [.app (.var 6) 1 (.cells [(.sel (.var 1) (.var 4) 3 2)])]
    (.next 0 [(.ar .add .i64 (.var 4) (.int .i64 1)), (.var 7), (.var 8)])))
   (.evs [.call 0 [(.var 5), (.val (.string ⟨#[32]⟩)), (.var 6)] none 1]
    (.ret [(.var 7)])))))
def Ss_writeBench : List Spec := [SP_Join]
def wrTree : Tr :=
  (.evs [.app (.val (.agg #[])) 1 (.cells [])]
  (.lp 0 [(.int .i64 0), (.var 2), (.val (.agg #[]))] [.int .i64, .sl, .rowC [.str]]
  (.ite (.cmp .lss (.var 4) (.len (.var 0)))
   (.evs [.need [(.inb (.var 1) (.var 4) 3)]]
    (.evs [.app (.var 6) 1 (.cells [(.sel (.var 1) (.var 4) 3 2)])]
    (.next 0 [(.ar .add .i64 (.var 4) (.int .i64 1)), (.var 7), (.var 8)])))
   (.evs [.call 0 [(.var 5), (.val (.string ⟨#[32]⟩)), (.var 6)] none 1]
    (.ret [(.var 7)])))))
theorem wr_sat (P : Program) {a0 : Option Addr} {cap0 : Nat} {l : List PV} {R : Value} {K : List Value → Prop} (hsz : R.cells.size = l.length * 3) (hget : ∀ i p, l[i]? = some p → R.cells.getD (i * 3 + 2) undef = bv p.1.t)
    (hl : l.length ≤ 1048576) (hj : (joinB 32 (l.map fun p : PV => p.1.t)).length ≤ 1099511627776) (hK : K [bv (joinB 32 (l.map fun p : PV => p.1.t))]) : sat P [SP_join] wrTree [.slice a0 l.length cap0, R] [] K := by
  refine evs_step (app_stepC (xs := []) (ys := []) rfl rfl (by simp) fun a2 len2 cap2 _ hcap2 hl2 => evs_nil ?_)
  have hl0 : len2 = 0 := by simpa using hl2
  subst hl0
  refine ⟨fun vs => ∃ (i : Nat) (a : Option Addr) (cap : Nat), vs = [.int .i64 i, .slice a i cap, rowS ((l.take i).map fun p : PV => p.1.t)] ∧ i ≤ l.length ∧ i ≤ cap, fun vs => l.length - (toI (vs.getD 0 undef)).toNat, ?_, ?_⟩
  · exact ⟨0, a2, cap2, rfl, Nat.zero_le _, Nat.zero_le _⟩
  · rintro vs hty ⟨i, a, cap, rfl, hi, hcap⟩
    refine ⟨fun hc => ?_, fun hc => ?_⟩
    · have hlt : i < l.length := by
        have hc : Value.bool (decide ((i : Int) < (l.length : Int))) = .bool true := hc
        have := bt_of hc; omega
      have hw : IntKind.i64.wrap ((i : Int) + 1) = ((i + 1 : Nat) : Int) := by rw [wrap_in (by omega)]; omega
      have hp := List.getElem?_eq_getElem hlt
      refine evs_step (need_step (all_cons (inb_true (c := R) (i := i) (n := 3) (by rw [hsz]; omega)) all_nil) (evs_nil ?_))
      refine evs_step (app_stepC (xs := ((l.take i).map fun p : PV => p.1.t).map bv) (ys := [bv l[i].1.t]) rfl ?_ (by simp; omega) fun a3 len3 cap3 _ hcap3 hl3 => evs_nil ?_)
      · show [R.cells.getD (((i : Int)).toNat * 3 + 2) undef] = _
        rw [Int.toNat_natCast, hget i _ hp]
      · have hl3 : len3 = i + 1 := by simp at hl3; omega
        subst hl3
        have ht : (l.take (i + 1)).map (fun p : PV => p.1.t) = (l.take i).map (fun p : PV => p.1.t) ++ [l[i].1.t] := by
          rw [List.take_add_one, hp, List.map_append]; rfl
        refine ⟨⟨i + 1, a3, cap3, ?_, hlt, hcap3⟩, ?_⟩
        · rw [ht, ← rowS_snoc]
          show [Value.int .i64 (IntKind.i64.wrap ((i : Int) + 1)), .slice a3 (i + 1) cap3, Value.agg (((l.take i).map fun p : PV => p.1.t).map bv ++ [bv l[i].1.t]).toArray] = _
          rw [hw]
        · show l.length - (IntKind.i64.wrap ((i : Int) + 1)).toNat < l.length - ((i : Int)).toNat
          rw [hw]; omega
    · have hge : i = l.length := by
        have hc : Value.bool (decide ((i : Int) < (l.length : Int))) = .bool false := hc
        have := bf_of hc; omega
      subst hge
      refine evs_step (call_step rfl ?_)
      refine ⟨l.map fun p : PV => p.1.t, 32, a, cap, ?_, by simpa using hcap, by simpa using hl, hj, evs_nil hK⟩
      show [Value.slice a l.length cap, bv [32], rowS ((l.take l.length).map fun p : PV => p.1.t)] = _
      rw [List.take_length, List.length_map]
def SP_writeBench : Spec := SP_wr
theorem sat_writeBench (P : Program) (ins : List Value) (K : List Value → Prop) (_ : TypedL [.sl, .rowC [.int .u8, .fat .i64 1, .str]] ins) (h : SP_writeBench ins K) : sat P Ss_writeBench tr_writeBench ins [] K := by
  obtain ⟨a, cap, l, rfl, hl, hj, hK⟩ := h
  exact wr_sat P (rowB_size l) (fun i p hp => rowB_get hp (by omega) rfl) hl hj hK
def tr_sBenchValid : Tr :=
  (.evs [.call 0 [(.var 0)] none 3]
  (.ret [(.var 2)]))
def Ss_sBenchValid : List Spec := [SP_l7Bench]
def joinV (a b : List UInt8) : List UInt8 × Bool := match benchW a, benchW b with
  | some x, some y => if (x ++ y).length ≤ 12 then (joinTwo a b, true) else ([], false)
  | _, _ => ([], false)
theorem joinV_eq (a b : List UInt8) : joinV a b = if ((benchW a).isSome && ((benchW b).isSome && (benchW (joinTwo a b)).isSome)) = true then (joinTwo a b, true) else ([], false) := by
  unfold joinV
  cases ha : benchW a with
  | none => rfl
  | some x =>
    cases hb : benchW b with
    | none => rfl
    | some y =>
      rw [benchW_joined ha hb]
      dsimp only
      by_cases h : (x ++ y).length ≤ 12
      · rw [if_pos h, if_pos h]; rfl
      · rw [if_neg h, if_neg h]; rfl
def piecesV (s : List UInt8) : Int := match benchW s with
  | some ps => ps.length
  | none => -1
def headV (p q : Int) : List UInt8 := 114 :: (Lib.itoa p ++ 58 :: Lib.itoa q)
def turnedV (s : List UInt8) (p q : Int) : List UInt8 × Bool :=
  if dirOk p q = true then
    (if (joinV (headV p (-q)) s).2 = true then joinV (joinV (headV p (-q)) s).1 (headV p q) else ([], false))
  else ([], false)
theorem joinTwo_len (a b : List UInt8) : (joinTwo a b).length ≤ a.length + b.length + 1 := by
  unfold joinTwo
  split
  · omega
  · split
    · omega
    · simp; omega
theorem joinV_len (a b : List UInt8) : (joinV a b).1.length ≤ a.length + b.length + 1 := by
  rw [joinV_eq]
  split
  · exact joinTwo_len a b
  · simp
theorem head_len {p q : Int} (hp : I64 p) (hq : I64 q) : (headV p q).length ≤ 42 := by
  have h1 := itoa_len20 hp
  have h2 := itoa_len20 hq
  unfold headV
  simp only [List.length_cons, List.length_append]
  omega
def SP_sBenchValid : Spec := fun ins K => ∃ s, ins = [bv s] ∧ K [.bool (benchW s).isSome]
theorem sat_sBenchValid (P : Program) (ins : List Value) (K : List Value → Prop) (_ : TypedL [.str] ins) (h : SP_sBenchValid ins K) : sat P Ss_sBenchValid tr_sBenchValid ins [] K := by
  obtain ⟨s, rfl, hK⟩ := h
  refine evs_step (call_step rfl ⟨s, rfl, ?_⟩)
  cases hb : benchW s with
  | none =>
    rw [hb] at hK
    exact fun x c => evs_nil hK
  | some ps =>
    rw [hb] at hK
    exact fun a len cap l _ _ _ => evs_nil hK
def tr_iBenchPieces : Tr :=
  (.evs [.call 0 [(.var 0)] none 3]
  (.ite (.not (.var 2))
  (.ret [(.int .i64 (-1))])
  (.ret [(.len (.var 1))])))
def Ss_iBenchPieces : List Spec := [SP_readBench]
def SP_iBenchPieces : Spec := fun ins K => ∃ s, ins = [bv s] ∧ s.length ≤ 2097152 ∧ K [.int .i64 (piecesV s)]
theorem sat_iBenchPieces (P : Program) (ins : List Value) (K : List Value → Prop) (_ : TypedL [.str] ins) (h : SP_iBenchPieces ins K) : sat P Ss_iBenchPieces tr_iBenchPieces ins [] K := by
  obtain ⟨s, rfl, hl, hK⟩ := h
  refine evs_step (call_step rfl ⟨s, rfl, hl, ?_⟩)
  unfold piecesV at hK
  cases hb : benchW s with
  | none =>
    rw [hb] at hK
    exact evs_nil (ite_t rfl hK)
  | some ps =>
    rw [hb] at hK
    intro a len cap l _ _ he
    subst he
    exact evs_nil (ite_f rfl hK)
def tr_iBenchJoin : Tr :=
  (.evs [.call 0 [(.var 0)] none 3]
  (.evs [.call 0 [(.var 1)] none 3]
  (.ite (.ite (.ite (.not (.var 3)) (.bool true) (.not (.var 6))) (.bool true) (.cmp .gtr (.ar .add .i64 (.len (.var 2)) (.len (.var 5))) (.int .i64 12)))
  (.ret [(.val (.string ⟨#[]⟩)), (.bool false)])
  (.evs [.app (.var 4) 3 (.row (.var 7)),
     .call 1 [(.var 8), (.var 9)] none 1]
   (.ret [(.var 10), (.bool true)])))))
def Ss_iBenchJoin : List Spec := [SP_readBench, SP_writeBench]
def SP_iBenchJoin : Spec := fun ins K => ∃ a b, ins = [bv a, bv b] ∧ a.length ≤ 2097152 ∧ b.length ≤ 2097152 ∧ K [bv (joinV a b).1, .bool (joinV a b).2]
theorem sat_iBenchJoin (P : Program) (ins : List Value) (K : List Value → Prop) (_ : TypedL [.str, .str] ins) (h : SP_iBenchJoin ins K) : sat P Ss_iBenchJoin tr_iBenchJoin ins [] K := by
  obtain ⟨a, b, rfl, hla, hlb, hK⟩ := h
  have hno : (joinV a b = ([], false)) → K [bv [], .bool false] := by
    intro e
    rw [e] at hK
    exact hK
  refine evs_step (call_step rfl ⟨a, rfl, hla, ?_⟩)
  cases ha : benchW a with
  | none =>
    have hj : joinV a b = ([], false) := by unfold joinV; rw [ha]
    refine evs_nil (evs_step (call_step rfl ⟨b, rfl, hlb, ?_⟩))
    cases hb : benchW b with
    | none => exact evs_nil (ite_t rfl (hno hj))
    | some y => exact fun _ _ _ _ _ _ _ => evs_nil (ite_t rfl (hno hj))
  | some x =>
    intro a1 len1 cap1 l1 e1 ok1 he1
    refine evs_nil (evs_step (call_step rfl ⟨b, rfl, hlb, ?_⟩))
    cases hb : benchW b with
    | none =>
      have hj : joinV a b = ([], false) := by unfold joinV; rw [ha, hb]
      exact evs_nil (ite_t rfl (hno hj))
    | some y =>
      intro a2 len2 cap2 l2 e2 ok2 he2
      refine evs_nil ?_
      subst e1
      subst e2
      rw [List.length_map] at he1 he2
      subst he1
      subst he2
      have hx := (benchW_some ha).1
      have hy := (benchW_some hb).1
      rw [List.length_map] at hx hy
      have hw : IntKind.i64.wrap ((l1.length : Int) + (l2.length : Int)) = (l1.length : Int) + (l2.length : Int) := wrap_in (by omega)
      have hcond : Value.bool (decide (IntKind.i64.wrap ((l1.length : Int) + (l2.length : Int)) > 12)) = .bool (decide (l1.length + l2.length > 12)) := by
        rw [hw]
        congr 1
        by_cases e : l1.length + l2.length > 12
        · rw [decide_eq_true e, decide_eq_true (by omega)]
        · rw [decide_eq_false e, decide_eq_false (by omega)]
      by_cases h12 : l1.length + l2.length > 12
      · have hj : joinV a b = ([], false) := by
          unfold joinV
          rw [ha, hb]
          dsimp only
          rw [if_neg (by simp; omega)]
        exact ite_t (hcond.trans (bt h12)) (hno hj)
      · have hj : joinV a b = (joinTwo a b, true) := by
          unfold joinV
          rw [ha, hb]
          dsimp only
          rw [if_pos (by simp; omega)]
        rw [hj] at hK
        refine ite_f (hcond.trans (congrArg Value.bool (decide_eq_false h12))) ?_
        have et : ((l1 ++ l2).map fun p : PV => p.1.t) = (l1.map Prod.fst ++ l2.map Prod.fst).map Pc.t := by simp; rfl
        have ej : joinB 32 ((l1 ++ l2).map fun p : PV => p.1.t) = joinTwo a b := by
          rw [et]
          exact joinB_two ha hb
        have hjl := joinTwo_len a b
        refine evs_step (app_step (xs := l1.flatMap cB) (ys := l2.flatMap cB) rfl (by simp [Src.vals, ev, rowB, Value.cells]) (by rw [flat_length (n := 3) (fun _ => rfl), flat_length (n := 3) (fun _ => rfl)]; omega) fun a3 len3 cap3 _ hl3 => ?_)
        have hl3 : len3 = (l1 ++ l2).length := by
          rw [flat_length (n := 3) (fun _ => rfl), flat_length (n := 3) (fun _ => rfl)] at hl3
          simp; omega
        subst hl3
        refine call_step rfl ⟨a3, cap3, l1 ++ l2, ?_, by simp; omega, by rw [ej]; omega, ?_⟩
        · show [Value.slice a3 (l1 ++ l2).length cap3, Value.agg (l1.flatMap cB ++ l2.flatMap cB).toArray] = _
          simp [rowB]
        · rw [ej]
          exact evs_nil hK
def tr_sBenchJoin : Tr :=
  (.ite (.seq (.var 0) (.val (.string ⟨#[]⟩)))
  (.evs [.call 0 [(.var 0)] none 1,
     .call 0 [(.var 1)] (some (.not (.not (.var 2)))) 1,
     .call 0 [(.var 1)] (some (.not (.ite (.not (.var 2)) (.bool true) (.not (.var 3))))) 1]
   (.ite (.ite (.ite (.not (.var 2)) (.bool true) (.not (.var 3))) (.bool true) (.not (.var 4)))
   (.ret [(.val (.string ⟨#[]⟩)), (.bool false)])
   (.ret [(.var 1), (.bool true)])))
  (.ite (.not (.seq (.var 1) (.val (.string ⟨#[]⟩))))
   (.evs [.need [(.cmp .leq (.len (.var 0)) (.ar .sub .i64 (.int .i64 9223372036854775807) (.len (.val (.string ⟨#[32]⟩)))))],
      .need [(.cmp .leq (.len (.scat (.var 0) (.val (.string ⟨#[32]⟩)))) (.ar .sub .i64 (.int .i64 9223372036854775807) (.len (.var 1))))]]
    (.evs [.call 0 [(.var 0)] none 1,
      .call 0 [(.var 1)] (some (.not (.not (.var 2)))) 1,
      .call 0 [(.scat (.scat (.var 0) (.val (.string ⟨#[32]⟩))) (.var 1))] (some (.not (.ite (.not (.var 2)) (.bool true) (.not (.var 3))))) 1]
    (.ite (.ite (.ite (.not (.var 2)) (.bool true) (.not (.var 3))) (.bool true) (.not (.var 4)))
    (.ret [(.val (.string ⟨#[]⟩)), (.bool false)])
    (.ret [(.scat (.scat (.var 0) (.val (.string ⟨#[32]⟩))) (.var 1)), (.bool true)]))))
   (.evs [.call 0 [(.var 0)] none 1,
      .call 0 [(.var 1)] (some (.not (.not (.var 2)))) 1,
      .call 0 [(.var 0)] (some (.not (.ite (.not (.var 2)) (.bool true) (.not (.var 3))))) 1]
    (.ite (.ite (.ite (.not (.var 2)) (.bool true) (.not (.var 3))) (.bool true) (.not (.var 4)))
    (.ret [(.val (.string ⟨#[]⟩)), (.bool false)])
    (.ret [(.var 0), (.bool true)])))))
def Ss_sBenchJoin : List Spec := [SP_sBenchValid]
def SP_sBenchJoin : Spec := fun ins K => ∃ a b, ins = [bv a, bv b] ∧ a.length ≤ 1099511627776 ∧ b.length ≤ 1099511627776 ∧ K [bv (joinV a b).1, .bool (joinV a b).2]
theorem join_three {P : Program} {a b : List UInt8} {o : Ex} (ho : ∀ more, ev ([bv a, bv b] ++ more) o = bv (joinTwo a b)) {N : List (List Value → Prop)} {K : List Value → Prop} (hK : K [bv (joinV a b).1, .bool (joinV a b).2]) :
    sat P [SP_sBenchValid] (.evs [.call 0 [(.var 0)] none 1,
     .call 0 [(.var 1)] (some (.not (.not (.var 2)))) 1,
     .call 0 [o] (some (.not (.ite (.not (.var 2)) (.bool true) (.not (.var 3))))) 1]
   (.ite (.ite (.ite (.not (.var 2)) (.bool true) (.not (.var 3))) (.bool true) (.not (.var 4)))
   (.ret [(.val (.string ⟨#[]⟩)), (.bool false)])
   (.ret [o, (.bool true)]))) [bv a, bv b] N K := by
  rw [joinV_eq] at hK
  refine evs_step (call_step rfl ⟨a, rfl, ?_⟩)
  cases ha : (benchW a).isSome with
  | false =>
    rw [ha, Bool.false_and, if_neg (by simp)] at hK
    exact callg_step rfl (fun h => by cases h) fun _ => callg_step rfl (fun h => by cases h) fun _ => evs_nil (ite_t rfl hK)
  | true =>
    rw [ha, Bool.true_and] at hK
    refine callg_step rfl (fun _ => ⟨b, rfl, ?_⟩) (fun h => by cases h)
    cases hb : (benchW b).isSome with
    | false =>
      rw [hb, Bool.false_and, if_neg (by simp)] at hK
      exact callg_step rfl (fun h => by cases h) fun _ => evs_nil (ite_t rfl hK)
    | true =>
      rw [hb, Bool.true_and] at hK
      refine callg_step rfl (fun _ => ⟨joinTwo a b, ?_, ?_⟩) (fun h => by cases h)
      · have := ho [.bool true, .bool true]
        show [ev _ o] = _
        rw [← this]
        rfl
      cases hc : (benchW (joinTwo a b)).isSome with
      | false =>
        rw [hc, if_neg (by simp)] at hK
        exact evs_nil (ite_t rfl hK)
      | true =>
        rw [hc, if_pos rfl] at hK
        refine evs_nil (ite_f rfl ?_)
        have := ho [.bool true, .bool true, .bool true]
        show K [ev ([bv a, bv b] ++ [.bool true, .bool true, .bool true]) o, .bool true]
        rw [this]
        exact hK
theorem sat_sBenchJoin (P : Program) (ins : List Value) (K : List Value → Prop) (_ : TypedL [.str, .str] ins) (h : SP_sBenchJoin ins K) : sat P Ss_sBenchJoin tr_sBenchJoin ins [] K := by
  obtain ⟨a, b, rfl, hla, hlb, hK⟩ := h
  have la : lenV (bv a) = (a.length : Int) := len_bv a
  have lb : lenV (bv b) = (b.length : Int) := len_bv b
  refine ⟨fun hc => ?_, fun hc => ?_⟩
  · have hc : Value.bool ((strV (bv a)).toList == (strV (bv [])).toList) = .bool true := hc
    rw [seq_bv] at hc
    have hs := bt_of hc
    refine join_three (o := .var 1) (fun more => ?_) hK
    unfold joinTwo
    rw [if_pos hs]; rfl
  · have hc : Value.bool ((strV (bv a)).toList == (strV (bv [])).toList) = .bool false := hc
    rw [seq_bv] at hc
    have hs := bf_of hc
    refine ⟨fun hc => ?_, fun hc => ?_⟩
    · have hc : Value.bool (!((strV (bv b)).toList == (strV (bv [])).toList)) = .bool true := hc
      rw [seq_bv] at hc
      have hs2 : ¬ b = [] := by
        have := Value.bool.inj hc
        simpa using this
      have sc : ∀ more, ev ([bv a, bv b] ++ more) (.scat (.scat (.var 0) (.val (.string ⟨#[32]⟩))) (.var 1)) = bv (joinTwo a b) := by
        intro more
        show Value.string (strV (Value.string (strV (bv a) ++ strV (bv [32]))) ++ strV (bv b)) = _
        rw [scat_bv, scat_bv]
        unfold joinTwo
        rw [if_neg hs, if_neg hs2]
        simp
      refine evs_step (need_step (all_cons ?_ all_nil) (need_step (all_cons ?_ all_nil) (evs_nil ?_)))
      · show Value.bool (decide (lenV (bv a) ≤ IntKind.i64.wrap (9223372036854775807 - lenV (bv [32])))) = _
        rw [la, len_bv, wrap_in (by simp)]
        exact bt (by simp; omega)
      · show Value.bool (decide (lenV (Value.string (strV (bv a) ++ strV (bv [32]))) ≤ IntKind.i64.wrap (9223372036854775807 - lenV (bv b)))) = _
        rw [scat_bv, len_bv, lb, wrap_in (by omega)]
        exact bt (by simp; omega)
      · exact join_three sc hK
    · have hc : Value.bool (!((strV (bv b)).toList == (strV (bv [])).toList)) = .bool false := hc
      rw [seq_bv] at hc
      have hs2 : b = [] := by
        have := Value.bool.inj hc
        simpa using this
      refine join_three (o := .var 0) (fun more => ?_) hK
      unfold joinTwo
      rw [if_neg hs, if_pos hs2]; rfl
def tr_iBenchTurned : Tr :=
  (.evs [.call 0 [(.var 1), (.var 2)] none 7]
  (.ite (.not (.var 9))
  (.ret [(.val (.string ⟨#[]⟩)), (.bool false)])
  (.evs [.call 1 [(.var 1)] none 1,
     .need [(.cmp .leq (.len (.val (.string ⟨#[114]⟩))) (.ar .sub .i64 (.int .i64 9223372036854775807) (.len (.var 10))))],
     .need [(.cmp .leq (.len (.scat (.val (.string ⟨#[114]⟩)) (.var 10))) (.ar .sub .i64 (.int .i64 9223372036854775807) (.len (.val (.string ⟨#[58]⟩)))))]]
   (.evs [.call 1 [(.ar .sub .i64 (.int .i64 0) (.var 2))] none 1,
     .need [(.cmp .leq (.len (.scat (.scat (.val (.string ⟨#[114]⟩)) (.var 10)) (.val (.string ⟨#[58]⟩)))) (.ar .sub .i64 (.int .i64 9223372036854775807) (.len (.var 11))))],
     .call 2 [(.scat (.scat (.scat (.val (.string ⟨#[114]⟩)) (.var 10)) (.val (.string ⟨#[58]⟩))) (.var 11)), (.var 0)] none 2]
   (.ite (.not (.var 13))
   (.ret [(.val (.string ⟨#[]⟩)), (.bool false)])
   (.evs [.call 1 [(.var 2)] none 1,
      .need [(.cmp .leq (.len (.scat (.scat (.val (.string ⟨#[114]⟩)) (.var 10)) (.val (.string ⟨#[58]⟩)))) (.ar .sub .i64 (.int .i64 9223372036854775807) (.len (.var 14))))],
      .call 2 [(.var 12), (.scat (.scat (.scat (.val (.string ⟨#[114]⟩)) (.var 10)) (.val (.string ⟨#[58]⟩))) (.var 14))] none 2]
    (.ret [(.var 15), (.var 16)])))))))
def Ss_iBenchTurned : List Spec := [G_direction.spec, SP_Itoa, SP_iBenchJoin]
theorem head_bv (p q : Int) : Value.string (strV (Value.string (strV (Value.string (strV (bv [114]) ++ strV (bv (Lib.itoa p)))) ++ strV (bv [58]))) ++ strV (bv (Lib.itoa q))) = bv (headV p q) := by
  rw [scat_bv, scat_bv, scat_bv]
  simp [headV]
theorem need_len {env : List Value} {x y : Ex} {m n : Nat} (hx : lenV (ev env x) = (m : Int)) (hy : lenV (ev env y) = (n : Int)) (hm : m ≤ 1000000000) (hn : n ≤ 1000000000) :
    ev env (.cmp .leq (.len x) (.ar .sub .i64 (.int .i64 9223372036854775807) (.len y))) = .bool true := by
  have e : ev env (.cmp .leq (.len x) (.ar .sub .i64 (.int .i64 9223372036854775807) (.len y))) = Value.bool (decide (lenV (ev env x) ≤ IntKind.i64.wrap (9223372036854775807 - lenV (ev env y)))) := by
    simp only [ev, cmpI, arI, toI_int]
    rfl
  rw [e, hx, hy, wrap_in (by omega)]
  exact bt (by omega)
theorem dir_small {p q : Int} (h : dirOk p q = true) : -100 ≤ p ∧ p ≤ 100 ∧ -100 ≤ q ∧ q ≤ 100 := by
  simp only [dirOk, Bool.and_eq_true, inRg, decide_eq_true_eq] at h
  omega
def SP_iBenchTurned : Spec := fun ins K => ∃ s p q, ins = [bv s, .int .i64 p, .int .i64 q] ∧ I64 p ∧ I64 q ∧ s.length ≤ 1048576 ∧ K [bv (turnedV s p q).1, .bool (turnedV s p q).2]
set_option maxHeartbeats 1000000 in
theorem sat_iBenchTurned (P : Program) (ins : List Value) (K : List Value → Prop) (_ : TypedL [.str, .int .i64, .int .i64] ins) (h : SP_iBenchTurned ins K) : sat P Ss_iBenchTurned tr_iBenchTurned ins [] K := by
  obtain ⟨s, p, q, rfl, hp, hq, hl, hK⟩ := h
  refine evs_step (call_step rfl ⟨trivial, evs_nil ?_⟩)
  unfold turnedV at hK
  cases hd : dirOk p q with
  | false =>
    rw [hd, if_neg (by simp)] at hK
    refine ite_t ?_ hK
    show Value.bool (!dirOk p q) = _
    rw [hd]; rfl
  | true =>
    rw [hd, if_pos rfl] at hK
    have hsm := dir_small hd
    have hw : IntKind.i64.wrap (0 - q) = -q := by rw [wrap_in (by omega)]; omega
    have hnq : I64 (-q) := by unfold I64; omega
    have lp := itoa_len20 hp
    have lq := itoa_len20 hq
    have lnq := itoa_len20 hnq
    have e1 : lenV (bv [114]) = ((1 : Nat) : Int) := rfl
    have e2 : lenV (bv [58]) = ((1 : Nat) : Int) := rfl
    have e3 : lenV (bv (Lib.itoa p)) = ((Lib.itoa p).length : Int) := len_bv _
    have e4 : lenV (Value.string (strV (bv [114]) ++ strV (bv (Lib.itoa p)))) = ((1 + (Lib.itoa p).length : Nat) : Int) := by rw [scat_bv, len_bv]; simp; omega
    have e5 : lenV (Value.string (strV (Value.string (strV (bv [114]) ++ strV (bv (Lib.itoa p)))) ++ strV (bv [58]))) = ((2 + (Lib.itoa p).length : Nat) : Int) := by rw [scat_bv, scat_bv, len_bv]; simp; omega
    have hhl := head_len hp hnq
    refine ite_f (show Value.bool (!dirOk p q) = .bool false by rw [hd]; rfl) ?_
    refine evs_step (call_step rfl ⟨p, rfl, ?_⟩)
    refine need_step (all_cons (need_len e1 e3 (by omega) (by omega)) all_nil) (need_step (all_cons (need_len e4 e2 (by omega) (by omega)) all_nil) (evs_nil ?_))
    refine evs_step (call_step rfl ⟨-q, ?_, ?_⟩)
    · show [Value.int .i64 (IntKind.i64.wrap (0 - q))] = _
      rw [hw]
    refine need_step (all_cons (need_len e5 (len_bv _) (by omega) (by omega)) all_nil) (call_step rfl ⟨headV p (-q), s, ?_, by omega, by omega, evs_nil ?_⟩)
    · show [Value.string (strV (Value.string (strV (Value.string (strV (bv [114]) ++ strV (bv (Lib.itoa p)))) ++ strV (bv [58]))) ++ strV (bv (Lib.itoa (-q)))), bv s] = _
      rw [head_bv]
    have hjl := joinV_len (headV p (-q)) s
    cases hj : (joinV (headV p (-q)) s).2 with
    | false =>
      rw [hj, if_neg (by simp)] at hK
      exact ite_t rfl hK
    | true =>
      rw [hj, if_pos rfl] at hK
      refine ite_f rfl (evs_step (call_step rfl ⟨q, rfl, ?_⟩))
      refine need_step (all_cons (need_len e5 (len_bv _) (by omega) (by omega)) all_nil) (call_step rfl ⟨(joinV (headV p (-q)) s).1, headV p q, ?_, by omega, by have := head_len hp hq; omega, evs_nil hK⟩)
      show [bv (joinV (headV p (-q)) s).1, Value.string (strV (Value.string (strV (Value.string (strV (bv [114]) ++ strV (bv (Lib.itoa p)))) ++ strV (bv [58]))) ++ strV (bv (Lib.itoa q)))] = _
      rw [head_bv]
def tr_sBenchTurned : Tr :=
  (.evs [.call 0 [(.var 1), (.var 2)] none 7]
  (.ite (.not (.var 9))
  (.ret [(.val (.string ⟨#[]⟩)), (.bool false)])
  (.evs [.call 1 [(.var 1)] none 1,
     .need [(.cmp .leq (.len (.val (.string ⟨#[114]⟩))) (.ar .sub .i64 (.int .i64 9223372036854775807) (.len (.var 10))))],
     .need [(.cmp .leq (.len (.scat (.val (.string ⟨#[114]⟩)) (.var 10))) (.ar .sub .i64 (.int .i64 9223372036854775807) (.len (.val (.string ⟨#[58]⟩)))))],
     .call 1 [(.ar .sub .i64 (.int .i64 0) (.var 2))] none 1,
     .need [(.cmp .leq (.len (.scat (.scat (.val (.string ⟨#[114]⟩)) (.var 10)) (.val (.string ⟨#[58]⟩)))) (.ar .sub .i64 (.int .i64 9223372036854775807) (.len (.var 11))))]]
   (.evs [.call 1 [(.var 1)] none 1,
     .need [(.cmp .leq (.len (.val (.string ⟨#[114]⟩))) (.ar .sub .i64 (.int .i64 9223372036854775807) (.len (.var 12))))],
     .need [(.cmp .leq (.len (.scat (.val (.string ⟨#[114]⟩)) (.var 12))) (.ar .sub .i64 (.int .i64 9223372036854775807) (.len (.val (.string ⟨#[58]⟩)))))],
     .call 1 [(.var 2)] none 1,
     .need [(.cmp .leq (.len (.scat (.scat (.val (.string ⟨#[114]⟩)) (.var 12)) (.val (.string ⟨#[58]⟩)))) (.ar .sub .i64 (.int .i64 9223372036854775807) (.len (.var 13))))]]
   (.evs [.call 2 [(.scat (.scat (.scat (.val (.string ⟨#[114]⟩)) (.var 10)) (.val (.string ⟨#[58]⟩))) (.var 11)), (.var 0)] none 2]
   (.ite (.not (.var 15))
   (.ret [(.val (.string ⟨#[]⟩)), (.bool false)])
   (.evs [.call 2 [(.var 14), (.scat (.scat (.scat (.val (.string ⟨#[114]⟩)) (.var 12)) (.val (.string ⟨#[58]⟩))) (.var 13))] none 2]
    (.ret [(.var 16), (.var 17)]))))))))
def Ss_sBenchTurned : List Spec := [G_l5Direction.spec, SP_l6Dec, SP_sBenchJoin]
def SP_sBenchTurned : Spec := fun ins K => ∃ s p q, ins = [bv s, .int .i64 p, .int .i64 q] ∧ I64 p ∧ I64 q ∧ s.length ≤ 1048576 ∧ K [bv (turnedV s p q).1, .bool (turnedV s p q).2]
set_option maxHeartbeats 1000000 in
theorem sat_sBenchTurned (P : Program) (ins : List Value) (K : List Value → Prop) (_ : TypedL [.str, .int .i64, .int .i64] ins) (h : SP_sBenchTurned ins K) : sat P Ss_sBenchTurned tr_sBenchTurned ins [] K := by
  obtain ⟨s, p, q, rfl, hp, hq, hl, hK⟩ := h
  refine evs_step (call_step rfl ⟨trivial, evs_nil ?_⟩)
  unfold turnedV at hK
  cases hd : dirOk p q with
  | false =>
    rw [hd, if_neg (by simp)] at hK
    refine ite_t ?_ hK
    show Value.bool (!dirOk p q) = _
    rw [hd]; rfl
  | true =>
    rw [hd, if_pos rfl] at hK
    have hsm := dir_small hd
    have hw : IntKind.i64.wrap (0 - q) = -q := by rw [wrap_in (by omega)]; omega
    have hnq : I64 (-q) := by unfold I64; omega
    have lp := itoa_len20 hp
    have lq := itoa_len20 hq
    have lnq := itoa_len20 hnq
    have e1 : lenV (bv [114]) = ((1 : Nat) : Int) := rfl
    have e2 : lenV (bv [58]) = ((1 : Nat) : Int) := rfl
    have e3 : lenV (bv (Lib.itoa p)) = ((Lib.itoa p).length : Int) := len_bv _
    have e4 : lenV (Value.string (strV (bv [114]) ++ strV (bv (Lib.itoa p)))) = ((1 + (Lib.itoa p).length : Nat) : Int) := by rw [scat_bv, len_bv]; simp; omega
    have e5 : lenV (Value.string (strV (Value.string (strV (bv [114]) ++ strV (bv (Lib.itoa p)))) ++ strV (bv [58]))) = ((2 + (Lib.itoa p).length : Nat) : Int) := by rw [scat_bv, scat_bv, len_bv]; simp; omega
    have hhl := head_len hp hnq
    refine ite_f (show Value.bool (!dirOk p q) = .bool false by rw [hd]; rfl) ?_
    refine evs_step (call_step rfl ⟨p, rfl, ?_⟩)
    refine need_step (all_cons (need_len e1 e3 (by omega) (by omega)) all_nil) (need_step (all_cons (need_len e4 e2 (by omega) (by omega)) all_nil) ?_)
    refine call_step rfl ⟨-q, ?_, ?_⟩
    · show [Value.int .i64 (IntKind.i64.wrap (0 - q))] = _
      rw [hw]
    refine need_step (all_cons (need_len e5 (len_bv _) (by omega) (by omega)) all_nil) (evs_nil ?_)
    refine evs_step (call_step rfl ⟨p, rfl, ?_⟩)
    refine need_step (all_cons (need_len e1 e3 (by omega) (by omega)) all_nil) (need_step (all_cons (need_len e4 e2 (by omega) (by omega)) all_nil) ?_)
    refine call_step rfl ⟨q, rfl, ?_⟩
    refine need_step (all_cons (need_len e5 (len_bv _) (by omega) (by omega)) all_nil) (evs_nil ?_)
    refine evs_step (call_step rfl ⟨headV p (-q), s, ?_, by omega, by omega, evs_nil ?_⟩)
    · show [Value.string (strV (Value.string (strV (Value.string (strV (bv [114]) ++ strV (bv (Lib.itoa p)))) ++ strV (bv [58]))) ++ strV (bv (Lib.itoa (-q)))), bv s] = _
      rw [head_bv]
    have hjl := joinV_len (headV p (-q)) s
    cases hj : (joinV (headV p (-q)) s).2 with
    | false =>
      rw [hj, if_neg (by simp)] at hK
      exact ite_t rfl hK
    | true =>
      rw [hj, if_pos rfl] at hK
      refine ite_f rfl (evs_step (call_step rfl ⟨(joinV (headV p (-q)) s).1, headV p q, ?_, by omega, by have := head_len hp hq; omega, evs_nil hK⟩))
      show [bv (joinV (headV p (-q)) s).1, Value.string (strV (Value.string (strV (Value.string (strV (bv [114]) ++ strV (bv (Lib.itoa p)))) ++ strV (bv [58]))) ++ strV (bv (Lib.itoa q)))] = _
      rw [head_bv]
def tr_ofG : Tr :=
  (.evs [.call 0 [(.len (.var 0)), (.var 1), (.var 2)] none 3,
    .need [(.inb (.var 3) (.var 4) 1)]]
  (.ret [(.sel (.var 3) (.var 4) 1 0), (.var 5), (.var 6)]))
def Ss_ofG (cb : CodeB) : List Spec := [(F_pickC cb).spec]
theorem pick_use {cb : CodeB} (hk : CodeOk cb) {m : Int} (hm : 1 ≤ m) (hm2 : m ≤ 1000) {b : Value} {z : Int} (hb : goodSl cb b) (h0 : 0 ≤ z) (hz : z ≤ 1000000000) {K : List Value → Prop} (hK : ∀ x, 0 ≤ x → x ≤ m - 1 → K [.int .i64 x, b, .int .i64 (z + 1)]) : (G_pick cb).spec [.int .i64 m, b, .int .i64 z] K := by
  have hn : I64 m := by unfold I64; omega
  obtain ⟨_, x, q2, q3, q4⟩ := pick_facts hk hb hn ⟨h0, hz⟩
  refine ⟨⟨hb, ⟨m, rfl, hn⟩, z, rfl, h0, hz⟩, ?_⟩
  have e : (G_pick cb).out [.int .i64 m, b, .int .i64 z] = [.int .i64 x, b, .int .i64 (z + 1)] := q2
  rw [e]
  exact hK x q3 (by omega)
theorem pk_step {P : Program} {cb : CodeB} (hk : CodeOk cb) {specs : List Spec} {j : Nat} (hs : specs[j]? = some (G_pick cb).spec) {mE bE zE : Ex} {r : List Evn} {env : List Value} {K : List Value → Prop} (m : Int) {b : Value} {z : Int}
    (em : ev env mE = .int .i64 m) (eb : ev env bE = b) (ez : ev env zE = .int .i64 z) (hm : 1 ≤ m ∧ m ≤ 1000) (hb : goodSl cb b) (hz : 0 ≤ z ∧ z ≤ 1000000)
    (h : ∀ x, 0 ≤ x → x ≤ m - 1 → evSat P specs r (env ++ [.int .i64 x, b, .int .i64 (z + 1)]) K) : evSat P specs (.call j [mE, bE, zE] none 3 :: r) env K := by
  refine call_step hs ?_
  show (G_pick cb).spec [ev env mE, ev env bE, ev env zE] _
  rw [em, eb, ez]
  exact pick_use hk hm.1 hm.2 hb hz.1 (by omega) h
def SP_ofG (cb : CodeB) : Spec := ofSpecG cb
theorem sat_ofG (P : Program) (cb : CodeB) (hk : CodeOk cb) (ins : List Value) (K : List Value → Prop) (_ : TypedL [.sl, .sl, .int .i64, .rowC [.str]] ins) (h : SP_ofG cb ins K) : sat P (Ss_ofG cb) tr_ofG ins [] K := by
  obtain ⟨q, b, z, c0, c1, c2, c3, c4, c5, c6, c7, rfl, hb, h0, hz, hc, hK⟩ := h
  refine evs_step ?_
  refine pk_step hk rfl 8 rfl rfl rfl (by omega) hb (by omega) fun x x0 x1 => ?_
  obtain ⟨n, rfl⟩ := Int.eq_ofNat_of_zero_le x0
  have hn : n < 8 := by omega
  refine need_step (all_cons (inb_true (c := .agg #[c0, c1, c2, c3, c4, c5, c6, c7]) (i := n) (n := 1) (by show (n + 1) * 1 ≤ 8; omega)) all_nil) (evs_nil ?_)
  refine hK _ _ _ ?_ hb (by omega) (by omega)
  have e : n = 0 ∨ n = 1 ∨ n = 2 ∨ n = 3 ∨ n = 4 ∨ n = 5 ∨ n = 6 ∨ n = 7 := by omega
  rcases e with rfl | rfl | rfl | rfl | rfl | rfl | rfl | rfl
  · exact hc c0 (by simp)
  · exact hc c1 (by simp)
  · exact hc c2 (by simp)
  · exact hc c3 (by simp)
  · exact hc c4 (by simp)
  · exact hc c5 (by simp)
  · exact hc c6 (by simp)
  · exact hc c7 (by simp)
def SP_ofC (cb : CodeB) : Spec := ofSpec cb
def tr_l92Piece : Tr :=
  (.evs [.call 0 [(.int .i64 5), (.var 1), (.var 2)] none 3,
    .call 1 [(.ar .sub .i64 (.var 3) (.int .i64 2))] none 1]
  (.evs [.call 0 [(.int .i64 2), (.var 4), (.var 5)] none 3,
    .call 1 [(.ar .add .i64 (.int .i64 1) (.var 7))] none 1]
  (.evs [.call 0 [(.int .i64 5), (.var 8), (.var 9)] none 3]
  (.ite (.cmp .eql (.var 11) (.int .i64 0))
  (.evs [.need [(.cmp .leq (.len (.val (.string ⟨#[114]⟩))) (.ar .sub .i64 (.int .i64 9223372036854775807) (.len (.var 6))))],
     .need [(.cmp .leq (.len (.scat (.val (.string ⟨#[114]⟩)) (.var 6))) (.ar .sub .i64 (.int .i64 9223372036854775807) (.len (.val (.string ⟨#[58]⟩)))))],
     .need [(.cmp .leq (.len (.scat (.scat (.val (.string ⟨#[114]⟩)) (.var 6)) (.val (.string ⟨#[58]⟩)))) (.ar .sub .i64 (.int .i64 9223372036854775807) (.len (.var 10))))]]
   (.ret [(.scat (.scat (.scat (.val (.string ⟨#[114]⟩)) (.var 6)) (.val (.string ⟨#[58]⟩))) (.var 10)), (.var 12), (.var 13)]))
  (.ite (.cmp .eql (.var 11) (.int .i64 1))
   (.ite (.cmp .eql (.var 11) (.int .i64 1))
    (.evs [.need [(.cmp .leq (.len (.val (.string ⟨#[119]⟩))) (.ar .sub .i64 (.int .i64 9223372036854775807) (.len (.var 6))))],
       .need [(.cmp .leq (.len (.scat (.val (.string ⟨#[119]⟩)) (.var 6))) (.ar .sub .i64 (.int .i64 9223372036854775807) (.len (.val (.string ⟨#[58]⟩)))))],
       .need [(.cmp .leq (.len (.scat (.scat (.val (.string ⟨#[119]⟩)) (.var 6)) (.val (.string ⟨#[58]⟩)))) (.ar .sub .i64 (.int .i64 9223372036854775807) (.len (.var 10))))],
       .need [(.cmp .leq (.len (.scat (.scat (.scat (.val (.string ⟨#[119]⟩)) (.var 6)) (.val (.string ⟨#[58]⟩))) (.var 10))) (.ar .sub .i64 (.int .i64 9223372036854775807) (.len (.val (.string ⟨#[58]⟩)))))],
       .call 0 [(.int .i64 4), (.var 12), (.var 13)] none 3,
       .call 1 [(.var 14)] none 1,
       .need [(.cmp .leq (.len (.scat (.scat (.scat (.scat (.val (.string ⟨#[119]⟩)) (.var 6)) (.val (.string ⟨#[58]⟩))) (.var 10)) (.val (.string ⟨#[58]⟩)))) (.ar .sub .i64 (.int .i64 9223372036854775807) (.len (.var 17))))]]
     (.ret [(.scat (.scat (.scat (.scat (.scat (.val (.string ⟨#[119]⟩)) (.var 6)) (.val (.string ⟨#[58]⟩))) (.var 10)) (.val (.string ⟨#[58]⟩))) (.var 17)), (.var 15), (.var 16)]))
    (.ite (.cmp .eql (.var 11) (.int .i64 3))
     (.evs [.need [(.cmp .leq (.len (.val (.string ⟨#[102]⟩))) (.ar .sub .i64 (.int .i64 9223372036854775807) (.len (.var 6))))],
        .need [(.cmp .leq (.len (.scat (.val (.string ⟨#[102]⟩)) (.var 6))) (.ar .sub .i64 (.int .i64 9223372036854775807) (.len (.val (.string ⟨#[58]⟩)))))],
        .need [(.cmp .leq (.len (.scat (.scat (.val (.string ⟨#[102]⟩)) (.var 6)) (.val (.string ⟨#[58]⟩)))) (.ar .sub .i64 (.int .i64 9223372036854775807) (.len (.var 10))))]]
      (.ret [(.scat (.scat (.scat (.val (.string ⟨#[102]⟩)) (.var 6)) (.val (.string ⟨#[58]⟩))) (.var 10)), (.var 12), (.var 13)]))
     (.evs [.call 0 [(.int .i64 4), (.var 12), (.var 13)] none 3]
      (.evs [.call 0 [(.int .i64 2), (.var 15), (.var 16)] (some (.var 0)) 3]
      (.ite (.ite (.var 0) (.cmp .eql (.var 17) (.int .i64 0)) (.bool false))
      (.evs [.call 0 [(.ar .add .i64 (.ar .add .i64 (.int .i64 1) (.var 14)) (.int .i64 1)), (.ite (.var 0) (.var 18) (.var 15)), (.ite (.var 0) (.var 19) (.var 16))] none 3,
         .call 1 [(.var 20)] none 1,
         .need [(.cmp .leq (.len (.val (.string ⟨#[100]⟩))) (.ar .sub .i64 (.int .i64 9223372036854775807) (.len (.var 23))))],
         .need [(.cmp .leq (.len (.scat (.val (.string ⟨#[100]⟩)) (.var 23))) (.ar .sub .i64 (.int .i64 9223372036854775807) (.len (.val (.string ⟨#[58]⟩)))))],
         .call 1 [(.ar .add .i64 (.int .i64 1) (.var 14))] none 1,
         .need [(.cmp .leq (.len (.scat (.scat (.val (.string ⟨#[100]⟩)) (.var 23)) (.val (.string ⟨#[58]⟩)))) (.ar .sub .i64 (.int .i64 9223372036854775807) (.len (.var 24))))]]
       (.ret [(.scat (.scat (.scat (.val (.string ⟨#[100]⟩)) (.var 23)) (.val (.string ⟨#[58]⟩))) (.var 24)), (.var 21), (.var 22)]))
      (.evs [.call 0 [(.ar .add .i64 (.ar .add .i64 (.int .i64 1) (.var 14)) (.int .i64 1)), (.ite (.var 0) (.var 18) (.var 15)), (.ite (.var 0) (.var 19) (.var 16))] none 3,
         .call 1 [(.var 20)] none 1,
         .need [(.cmp .leq (.len (.val (.string ⟨#[97]⟩))) (.ar .sub .i64 (.int .i64 9223372036854775807) (.len (.var 23))))],
         .need [(.cmp .leq (.len (.scat (.val (.string ⟨#[97]⟩)) (.var 23))) (.ar .sub .i64 (.int .i64 9223372036854775807) (.len (.val (.string ⟨#[58]⟩)))))],
         .call 1 [(.ar .add .i64 (.int .i64 1) (.var 14))] none 1,
         .need [(.cmp .leq (.len (.scat (.scat (.val (.string ⟨#[97]⟩)) (.var 23)) (.val (.string ⟨#[58]⟩)))) (.ar .sub .i64 (.int .i64 9223372036854775807) (.len (.var 24))))]]
       (.ret [(.scat (.scat (.scat (.val (.string ⟨#[97]⟩)) (.var 23)) (.val (.string ⟨#[58]⟩))) (.var 24)), (.var 21), (.var 22)])))))))
   (.ite (.cmp .eql (.var 11) (.int .i64 2))
    (.evs [.need [(.cmp .leq (.len (.val (.string ⟨#[119]⟩))) (.ar .sub .i64 (.int .i64 9223372036854775807) (.len (.var 6))))],
       .need [(.cmp .leq (.len (.scat (.val (.string ⟨#[119]⟩)) (.var 6))) (.ar .sub .i64 (.int .i64 9223372036854775807) (.len (.val (.string ⟨#[58]⟩)))))],
       .need [(.cmp .leq (.len (.scat (.scat (.val (.string ⟨#[119]⟩)) (.var 6)) (.val (.string ⟨#[58]⟩)))) (.ar .sub .i64 (.int .i64 9223372036854775807) (.len (.var 10))))],
       .need [(.cmp .leq (.len (.scat (.scat (.scat (.val (.string ⟨#[119]⟩)) (.var 6)) (.val (.string ⟨#[58]⟩))) (.var 10))) (.ar .sub .i64 (.int .i64 9223372036854775807) (.len (.val (.string ⟨#[58]⟩)))))],
       .call 0 [(.int .i64 4), (.var 12), (.var 13)] none 3,
       .call 1 [(.var 14)] none 1,
       .need [(.cmp .leq (.len (.scat (.scat (.scat (.scat (.val (.string ⟨#[119]⟩)) (.var 6)) (.val (.string ⟨#[58]⟩))) (.var 10)) (.val (.string ⟨#[58]⟩)))) (.ar .sub .i64 (.int .i64 9223372036854775807) (.len (.var 17))))]]
     (.ret [(.scat (.scat (.scat (.scat (.scat (.val (.string ⟨#[119]⟩)) (.var 6)) (.val (.string ⟨#[58]⟩))) (.var 10)) (.val (.string ⟨#[58]⟩))) (.var 17)), (.var 15), (.var 16)]))
    (.ite (.cmp .eql (.var 11) (.int .i64 3))
     (.evs [.need [(.cmp .leq (.len (.val (.string ⟨#[102]⟩))) (.ar .sub .i64 (.int .i64 9223372036854775807) (.len (.var 6))))],
        .need [(.cmp .leq (.len (.scat (.val (.string ⟨#[102]⟩)) (.var 6))) (.ar .sub .i64 (.int .i64 9223372036854775807) (.len (.val (.string ⟨#[58]⟩)))))],
        .need [(.cmp .leq (.len (.scat (.scat (.val (.string ⟨#[102]⟩)) (.var 6)) (.val (.string ⟨#[58]⟩)))) (.ar .sub .i64 (.int .i64 9223372036854775807) (.len (.var 10))))]]
      (.ret [(.scat (.scat (.scat (.val (.string ⟨#[102]⟩)) (.var 6)) (.val (.string ⟨#[58]⟩))) (.var 10)), (.var 12), (.var 13)]))
     (.evs [.call 0 [(.int .i64 4), (.var 12), (.var 13)] none 3]
      (.evs [.call 0 [(.int .i64 2), (.var 15), (.var 16)] (some (.var 0)) 3]
      (.ite (.ite (.var 0) (.cmp .eql (.var 17) (.int .i64 0)) (.bool false))
      (.evs [.call 0 [(.ar .add .i64 (.ar .add .i64 (.int .i64 1) (.var 14)) (.int .i64 1)), (.ite (.var 0) (.var 18) (.var 15)), (.ite (.var 0) (.var 19) (.var 16))] none 3,
         .call 1 [(.var 20)] none 1,
         .need [(.cmp .leq (.len (.val (.string ⟨#[100]⟩))) (.ar .sub .i64 (.int .i64 9223372036854775807) (.len (.var 23))))],
         .need [(.cmp .leq (.len (.scat (.val (.string ⟨#[100]⟩)) (.var 23))) (.ar .sub .i64 (.int .i64 9223372036854775807) (.len (.val (.string ⟨#[58]⟩)))))],
         .call 1 [(.ar .add .i64 (.int .i64 1) (.var 14))] none 1,
         .need [(.cmp .leq (.len (.scat (.scat (.val (.string ⟨#[100]⟩)) (.var 23)) (.val (.string ⟨#[58]⟩)))) (.ar .sub .i64 (.int .i64 9223372036854775807) (.len (.var 24))))]]
       (.ret [(.scat (.scat (.scat (.val (.string ⟨#[100]⟩)) (.var 23)) (.val (.string ⟨#[58]⟩))) (.var 24)), (.var 21), (.var 22)]))
      (.evs [.call 0 [(.ar .add .i64 (.ar .add .i64 (.int .i64 1) (.var 14)) (.int .i64 1)), (.ite (.var 0) (.var 18) (.var 15)), (.ite (.var 0) (.var 19) (.var 16))] none 3,
         .call 1 [(.var 20)] none 1,
         .need [(.cmp .leq (.len (.val (.string ⟨#[97]⟩))) (.ar .sub .i64 (.int .i64 9223372036854775807) (.len (.var 23))))],
         .need [(.cmp .leq (.len (.scat (.val (.string ⟨#[97]⟩)) (.var 23))) (.ar .sub .i64 (.int .i64 9223372036854775807) (.len (.val (.string ⟨#[58]⟩)))))],
         .call 1 [(.ar .add .i64 (.int .i64 1) (.var 14))] none 1,
         .need [(.cmp .leq (.len (.scat (.scat (.val (.string ⟨#[97]⟩)) (.var 23)) (.val (.string ⟨#[58]⟩)))) (.ar .sub .i64 (.int .i64 9223372036854775807) (.len (.var 24))))]]
       (.ret [(.scat (.scat (.scat (.val (.string ⟨#[97]⟩)) (.var 23)) (.val (.string ⟨#[58]⟩))) (.var 24)), (.var 21), (.var 22)]))))))))))))
def Ss_l92Piece (cb : CodeB) : List Spec := [(F_pickC cb).spec, SP_l6Dec]
def SP_l92Piece (cb : CodeB) : Spec := drawT cb 15 10 200000
set_option maxHeartbeats 2000000 in
theorem sat_l92Piece (P : Program) (cb : CodeB) (hk : CodeOk cb) (ins : List Value) (K : List Value → Prop) (_ : TypedL [.bool, .sl, .int .i64] ins) (h : SP_l92Piece cb ins K) : sat P (Ss_l92Piece cb) tr_l92Piece ins [] K := by
  obtain ⟨f, b, z, rfl, hb, h0, hz, hK⟩ := h
  cases f with
  | false =>
    refine evs_step ?_
    refine pk_step hk rfl 5 rfl rfl rfl (by omega) hb (by omega) fun x1 x1l x1h => ?_
    refine dec_step1 rfl (x1 - 2) (ar_sub rfl rfl (by omega)) (by omega) fun v2 hv2 => ?_
    refine evs_nil ?_
    refine evs_step ?_
    refine pk_step hk rfl 2 rfl rfl rfl (by omega) hb (by omega) fun x3 x3l x3h => ?_
    refine dec_step1 rfl (1 + x3) (ar_add rfl rfl (by omega)) (by omega) fun v4 hv4 => ?_
    refine evs_nil ?_
    refine evs_step ?_
    refine pk_step hk rfl 5 rfl rfl rfl (by omega) hb (by omega) fun x5 x5l x5h => ?_
    refine evs_nil ?_
    refine ⟨fun _ => ?_, fun _ => ?_⟩
    · refine evs_step ?_
      refine needs_sh (sh_c [114]) hv2 (by decide) ?_
      refine needs_sh (sh_scat (sh_c [114]) hv2) (sh_c [58]) (by decide) ?_
      refine needs_sh (sh_scat (sh_scat (sh_c [114]) hv2) (sh_c [58])) hv4 (by decide) ?_
      refine evs_nil ?_
      exact hK _ _ _ (sh_mono (sh_scat (sh_scat (sh_scat (sh_c [114]) hv2) (sh_c [58])) hv4) (by decide)) hb (by omega) (by omega)
    · refine ⟨fun _ => ?_, fun _ => ?_⟩
      · refine ⟨fun _ => ?_, fun _ => ?_⟩
        · refine evs_step ?_
          refine needs_sh (sh_c [119]) hv2 (by decide) ?_
          refine needs_sh (sh_scat (sh_c [119]) hv2) (sh_c [58]) (by decide) ?_
          refine needs_sh (sh_scat (sh_scat (sh_c [119]) hv2) (sh_c [58])) hv4 (by decide) ?_
          refine needs_sh (sh_scat (sh_scat (sh_scat (sh_c [119]) hv2) (sh_c [58])) hv4) (sh_c [58]) (by decide) ?_
          refine pk_step hk rfl 4 rfl rfl rfl (by omega) hb (by omega) fun x6 x6l x6h => ?_
          refine dec_step1 rfl x6 rfl (by omega) fun v7 hv7 => ?_
          refine needs_sh (sh_scat (sh_scat (sh_scat (sh_scat (sh_c [119]) hv2) (sh_c [58])) hv4) (sh_c [58])) hv7 (by decide) ?_
          refine evs_nil ?_
          exact hK _ _ _ (sh_mono (sh_scat (sh_scat (sh_scat (sh_scat (sh_scat (sh_c [119]) hv2) (sh_c [58])) hv4) (sh_c [58])) hv7) (by decide)) hb (by omega) (by omega)
        · refine ⟨fun _ => ?_, fun _ => ?_⟩
          · refine evs_step ?_
            refine needs_sh (sh_c [102]) hv2 (by decide) ?_
            refine needs_sh (sh_scat (sh_c [102]) hv2) (sh_c [58]) (by decide) ?_
            refine needs_sh (sh_scat (sh_scat (sh_c [102]) hv2) (sh_c [58])) hv4 (by decide) ?_
            refine evs_nil ?_
            exact hK _ _ _ (sh_mono (sh_scat (sh_scat (sh_scat (sh_c [102]) hv2) (sh_c [58])) hv4) (by decide)) hb (by omega) (by omega)
          · refine evs_step ?_
            refine pk_step hk rfl 4 rfl rfl rfl (by omega) hb (by omega) fun x8 x8l x8h => ?_
            refine evs_nil ?_
            refine evs_step ?_
            refine callg_step rfl (fun h => by cases h) fun _ => ?_
            refine evs_nil ?_
            refine ⟨fun _ => ?_, fun _ => ?_⟩
            · refine evs_step ?_
              refine pk_step hk rfl ((1 + x8) + 1) (ar_add (ar_add rfl rfl (by omega)) rfl (by omega)) rfl rfl (by omega) hb (by omega) fun x9 x9l x9h => ?_
              refine dec_step1 rfl x9 rfl (by omega) fun v10 hv10 => ?_
              refine needs_sh (sh_c [100]) hv10 (by decide) ?_
              refine needs_sh (sh_scat (sh_c [100]) hv10) (sh_c [58]) (by decide) ?_
              refine dec_step1 rfl (1 + x8) (ar_add rfl rfl (by omega)) (by omega) fun v11 hv11 => ?_
              refine needs_sh (sh_scat (sh_scat (sh_c [100]) hv10) (sh_c [58])) hv11 (by decide) ?_
              refine evs_nil ?_
              exact hK _ _ _ (sh_mono (sh_scat (sh_scat (sh_scat (sh_c [100]) hv10) (sh_c [58])) hv11) (by decide)) hb (by omega) (by omega)
            · refine evs_step ?_
              refine pk_step hk rfl ((1 + x8) + 1) (ar_add (ar_add rfl rfl (by omega)) rfl (by omega)) rfl rfl (by omega) hb (by omega) fun x12 x12l x12h => ?_
              refine dec_step1 rfl x12 rfl (by omega) fun v13 hv13 => ?_
              refine needs_sh (sh_c [97]) hv13 (by decide) ?_
              refine needs_sh (sh_scat (sh_c [97]) hv13) (sh_c [58]) (by decide) ?_
              refine dec_step1 rfl (1 + x8) (ar_add rfl rfl (by omega)) (by omega) fun v14 hv14 => ?_
              refine needs_sh (sh_scat (sh_scat (sh_c [97]) hv13) (sh_c [58])) hv14 (by decide) ?_
              refine evs_nil ?_
              exact hK _ _ _ (sh_mono (sh_scat (sh_scat (sh_scat (sh_c [97]) hv13) (sh_c [58])) hv14) (by decide)) hb (by omega) (by omega)
      · refine ⟨fun _ => ?_, fun _ => ?_⟩
        · refine evs_step ?_
          refine needs_sh (sh_c [119]) hv2 (by decide) ?_
          refine needs_sh (sh_scat (sh_c [119]) hv2) (sh_c [58]) (by decide) ?_
          refine needs_sh (sh_scat (sh_scat (sh_c [119]) hv2) (sh_c [58])) hv4 (by decide) ?_
          refine needs_sh (sh_scat (sh_scat (sh_scat (sh_c [119]) hv2) (sh_c [58])) hv4) (sh_c [58]) (by decide) ?_
          refine pk_step hk rfl 4 rfl rfl rfl (by omega) hb (by omega) fun x15 x15l x15h => ?_
          refine dec_step1 rfl x15 rfl (by omega) fun v16 hv16 => ?_
          refine needs_sh (sh_scat (sh_scat (sh_scat (sh_scat (sh_c [119]) hv2) (sh_c [58])) hv4) (sh_c [58])) hv16 (by decide) ?_
          refine evs_nil ?_
          exact hK _ _ _ (sh_mono (sh_scat (sh_scat (sh_scat (sh_scat (sh_scat (sh_c [119]) hv2) (sh_c [58])) hv4) (sh_c [58])) hv16) (by decide)) hb (by omega) (by omega)
        · refine ⟨fun _ => ?_, fun _ => ?_⟩
          · refine evs_step ?_
            refine needs_sh (sh_c [102]) hv2 (by decide) ?_
            refine needs_sh (sh_scat (sh_c [102]) hv2) (sh_c [58]) (by decide) ?_
            refine needs_sh (sh_scat (sh_scat (sh_c [102]) hv2) (sh_c [58])) hv4 (by decide) ?_
            refine evs_nil ?_
            exact hK _ _ _ (sh_mono (sh_scat (sh_scat (sh_scat (sh_c [102]) hv2) (sh_c [58])) hv4) (by decide)) hb (by omega) (by omega)
          · refine evs_step ?_
            refine pk_step hk rfl 4 rfl rfl rfl (by omega) hb (by omega) fun x17 x17l x17h => ?_
            refine evs_nil ?_
            refine evs_step ?_
            refine callg_step rfl (fun h => by cases h) fun _ => ?_
            refine evs_nil ?_
            refine ⟨fun _ => ?_, fun _ => ?_⟩
            · refine evs_step ?_
              refine pk_step hk rfl ((1 + x17) + 1) (ar_add (ar_add rfl rfl (by omega)) rfl (by omega)) rfl rfl (by omega) hb (by omega) fun x18 x18l x18h => ?_
              refine dec_step1 rfl x18 rfl (by omega) fun v19 hv19 => ?_
              refine needs_sh (sh_c [100]) hv19 (by decide) ?_
              refine needs_sh (sh_scat (sh_c [100]) hv19) (sh_c [58]) (by decide) ?_
              refine dec_step1 rfl (1 + x17) (ar_add rfl rfl (by omega)) (by omega) fun v20 hv20 => ?_
              refine needs_sh (sh_scat (sh_scat (sh_c [100]) hv19) (sh_c [58])) hv20 (by decide) ?_
              refine evs_nil ?_
              exact hK _ _ _ (sh_mono (sh_scat (sh_scat (sh_scat (sh_c [100]) hv19) (sh_c [58])) hv20) (by decide)) hb (by omega) (by omega)
            · refine evs_step ?_
              refine pk_step hk rfl ((1 + x17) + 1) (ar_add (ar_add rfl rfl (by omega)) rfl (by omega)) rfl rfl (by omega) hb (by omega) fun x21 x21l x21h => ?_
              refine dec_step1 rfl x21 rfl (by omega) fun v22 hv22 => ?_
              refine needs_sh (sh_c [97]) hv22 (by decide) ?_
              refine needs_sh (sh_scat (sh_c [97]) hv22) (sh_c [58]) (by decide) ?_
              refine dec_step1 rfl (1 + x17) (ar_add rfl rfl (by omega)) (by omega) fun v23 hv23 => ?_
              refine needs_sh (sh_scat (sh_scat (sh_c [97]) hv22) (sh_c [58])) hv23 (by decide) ?_
              refine evs_nil ?_
              exact hK _ _ _ (sh_mono (sh_scat (sh_scat (sh_scat (sh_c [97]) hv22) (sh_c [58])) hv23) (by decide)) hb (by omega) (by omega)
  | true =>
    refine evs_step ?_
    refine pk_step hk rfl 5 rfl rfl rfl (by omega) hb (by omega) fun x1 x1l x1h => ?_
    refine dec_step1 rfl (x1 - 2) (ar_sub rfl rfl (by omega)) (by omega) fun v2 hv2 => ?_
    refine evs_nil ?_
    refine evs_step ?_
    refine pk_step hk rfl 2 rfl rfl rfl (by omega) hb (by omega) fun x3 x3l x3h => ?_
    refine dec_step1 rfl (1 + x3) (ar_add rfl rfl (by omega)) (by omega) fun v4 hv4 => ?_
    refine evs_nil ?_
    refine evs_step ?_
    refine pk_step hk rfl 5 rfl rfl rfl (by omega) hb (by omega) fun x5 x5l x5h => ?_
    refine evs_nil ?_
    refine ⟨fun _ => ?_, fun _ => ?_⟩
    · refine evs_step ?_
      refine needs_sh (sh_c [114]) hv2 (by decide) ?_
      refine needs_sh (sh_scat (sh_c [114]) hv2) (sh_c [58]) (by decide) ?_
      refine needs_sh (sh_scat (sh_scat (sh_c [114]) hv2) (sh_c [58])) hv4 (by decide) ?_
      refine evs_nil ?_
      exact hK _ _ _ (sh_mono (sh_scat (sh_scat (sh_scat (sh_c [114]) hv2) (sh_c [58])) hv4) (by decide)) hb (by omega) (by omega)
    · refine ⟨fun _ => ?_, fun _ => ?_⟩
      · refine ⟨fun _ => ?_, fun _ => ?_⟩
        · refine evs_step ?_
          refine needs_sh (sh_c [119]) hv2 (by decide) ?_
          refine needs_sh (sh_scat (sh_c [119]) hv2) (sh_c [58]) (by decide) ?_
          refine needs_sh (sh_scat (sh_scat (sh_c [119]) hv2) (sh_c [58])) hv4 (by decide) ?_
          refine needs_sh (sh_scat (sh_scat (sh_scat (sh_c [119]) hv2) (sh_c [58])) hv4) (sh_c [58]) (by decide) ?_
          refine pk_step hk rfl 4 rfl rfl rfl (by omega) hb (by omega) fun x6 x6l x6h => ?_
          refine dec_step1 rfl x6 rfl (by omega) fun v7 hv7 => ?_
          refine needs_sh (sh_scat (sh_scat (sh_scat (sh_scat (sh_c [119]) hv2) (sh_c [58])) hv4) (sh_c [58])) hv7 (by decide) ?_
          refine evs_nil ?_
          exact hK _ _ _ (sh_mono (sh_scat (sh_scat (sh_scat (sh_scat (sh_scat (sh_c [119]) hv2) (sh_c [58])) hv4) (sh_c [58])) hv7) (by decide)) hb (by omega) (by omega)
        · refine ⟨fun _ => ?_, fun _ => ?_⟩
          · refine evs_step ?_
            refine needs_sh (sh_c [102]) hv2 (by decide) ?_
            refine needs_sh (sh_scat (sh_c [102]) hv2) (sh_c [58]) (by decide) ?_
            refine needs_sh (sh_scat (sh_scat (sh_c [102]) hv2) (sh_c [58])) hv4 (by decide) ?_
            refine evs_nil ?_
            exact hK _ _ _ (sh_mono (sh_scat (sh_scat (sh_scat (sh_c [102]) hv2) (sh_c [58])) hv4) (by decide)) hb (by omega) (by omega)
          · refine evs_step ?_
            refine pk_step hk rfl 4 rfl rfl rfl (by omega) hb (by omega) fun x8 x8l x8h => ?_
            refine evs_nil ?_
            refine evs_step ?_
            refine callg_step rfl (fun _ => ?_) (fun h => by cases h)
            refine pick_use hk (m := 2) (by omega) (by omega) hb (by omega) (by omega) fun x9 x9l x9h => ?_
            refine evs_nil ?_
            refine ⟨fun _ => ?_, fun _ => ?_⟩
            · refine evs_step ?_
              refine pk_step hk rfl ((1 + x8) + 1) (ar_add (ar_add rfl rfl (by omega)) rfl (by omega)) rfl rfl (by omega) hb (by omega) fun x10 x10l x10h => ?_
              refine dec_step1 rfl x10 rfl (by omega) fun v11 hv11 => ?_
              refine needs_sh (sh_c [100]) hv11 (by decide) ?_
              refine needs_sh (sh_scat (sh_c [100]) hv11) (sh_c [58]) (by decide) ?_
              refine dec_step1 rfl (1 + x8) (ar_add rfl rfl (by omega)) (by omega) fun v12 hv12 => ?_
              refine needs_sh (sh_scat (sh_scat (sh_c [100]) hv11) (sh_c [58])) hv12 (by decide) ?_
              refine evs_nil ?_
              exact hK _ _ _ (sh_mono (sh_scat (sh_scat (sh_scat (sh_c [100]) hv11) (sh_c [58])) hv12) (by decide)) hb (by omega) (by omega)
            · refine evs_step ?_
              refine pk_step hk rfl ((1 + x8) + 1) (ar_add (ar_add rfl rfl (by omega)) rfl (by omega)) rfl rfl (by omega) hb (by omega) fun x13 x13l x13h => ?_
              refine dec_step1 rfl x13 rfl (by omega) fun v14 hv14 => ?_
              refine needs_sh (sh_c [97]) hv14 (by decide) ?_
              refine needs_sh (sh_scat (sh_c [97]) hv14) (sh_c [58]) (by decide) ?_
              refine dec_step1 rfl (1 + x8) (ar_add rfl rfl (by omega)) (by omega) fun v15 hv15 => ?_
              refine needs_sh (sh_scat (sh_scat (sh_c [97]) hv14) (sh_c [58])) hv15 (by decide) ?_
              refine evs_nil ?_
              exact hK _ _ _ (sh_mono (sh_scat (sh_scat (sh_scat (sh_c [97]) hv14) (sh_c [58])) hv15) (by decide)) hb (by omega) (by omega)
      · refine ⟨fun _ => ?_, fun _ => ?_⟩
        · refine evs_step ?_
          refine needs_sh (sh_c [119]) hv2 (by decide) ?_
          refine needs_sh (sh_scat (sh_c [119]) hv2) (sh_c [58]) (by decide) ?_
          refine needs_sh (sh_scat (sh_scat (sh_c [119]) hv2) (sh_c [58])) hv4 (by decide) ?_
          refine needs_sh (sh_scat (sh_scat (sh_scat (sh_c [119]) hv2) (sh_c [58])) hv4) (sh_c [58]) (by decide) ?_
          refine pk_step hk rfl 4 rfl rfl rfl (by omega) hb (by omega) fun x16 x16l x16h => ?_
          refine dec_step1 rfl x16 rfl (by omega) fun v17 hv17 => ?_
          refine needs_sh (sh_scat (sh_scat (sh_scat (sh_scat (sh_c [119]) hv2) (sh_c [58])) hv4) (sh_c [58])) hv17 (by decide) ?_
          refine evs_nil ?_
          exact hK _ _ _ (sh_mono (sh_scat (sh_scat (sh_scat (sh_scat (sh_scat (sh_c [119]) hv2) (sh_c [58])) hv4) (sh_c [58])) hv17) (by decide)) hb (by omega) (by omega)
        · refine ⟨fun _ => ?_, fun _ => ?_⟩
          · refine evs_step ?_
            refine needs_sh (sh_c [102]) hv2 (by decide) ?_
            refine needs_sh (sh_scat (sh_c [102]) hv2) (sh_c [58]) (by decide) ?_
            refine needs_sh (sh_scat (sh_scat (sh_c [102]) hv2) (sh_c [58])) hv4 (by decide) ?_
            refine evs_nil ?_
            exact hK _ _ _ (sh_mono (sh_scat (sh_scat (sh_scat (sh_c [102]) hv2) (sh_c [58])) hv4) (by decide)) hb (by omega) (by omega)
          · refine evs_step ?_
            refine pk_step hk rfl 4 rfl rfl rfl (by omega) hb (by omega) fun x18 x18l x18h => ?_
            refine evs_nil ?_
            refine evs_step ?_
            refine callg_step rfl (fun _ => ?_) (fun h => by cases h)
            refine pick_use hk (m := 2) (by omega) (by omega) hb (by omega) (by omega) fun x19 x19l x19h => ?_
            refine evs_nil ?_
            refine ⟨fun _ => ?_, fun _ => ?_⟩
            · refine evs_step ?_
              refine pk_step hk rfl ((1 + x18) + 1) (ar_add (ar_add rfl rfl (by omega)) rfl (by omega)) rfl rfl (by omega) hb (by omega) fun x20 x20l x20h => ?_
              refine dec_step1 rfl x20 rfl (by omega) fun v21 hv21 => ?_
              refine needs_sh (sh_c [100]) hv21 (by decide) ?_
              refine needs_sh (sh_scat (sh_c [100]) hv21) (sh_c [58]) (by decide) ?_
              refine dec_step1 rfl (1 + x18) (ar_add rfl rfl (by omega)) (by omega) fun v22 hv22 => ?_
              refine needs_sh (sh_scat (sh_scat (sh_c [100]) hv21) (sh_c [58])) hv22 (by decide) ?_
              refine evs_nil ?_
              exact hK _ _ _ (sh_mono (sh_scat (sh_scat (sh_scat (sh_c [100]) hv21) (sh_c [58])) hv22) (by decide)) hb (by omega) (by omega)
            · refine evs_step ?_
              refine pk_step hk rfl ((1 + x18) + 1) (ar_add (ar_add rfl rfl (by omega)) rfl (by omega)) rfl rfl (by omega) hb (by omega) fun x23 x23l x23h => ?_
              refine dec_step1 rfl x23 rfl (by omega) fun v24 hv24 => ?_
              refine needs_sh (sh_c [97]) hv24 (by decide) ?_
              refine needs_sh (sh_scat (sh_c [97]) hv24) (sh_c [58]) (by decide) ?_
              refine dec_step1 rfl (1 + x18) (ar_add rfl rfl (by omega)) (by omega) fun v25 hv25 => ?_
              refine needs_sh (sh_scat (sh_scat (sh_c [97]) hv24) (sh_c [58])) hv25 (by decide) ?_
              refine evs_nil ?_
              exact hK _ _ _ (sh_mono (sh_scat (sh_scat (sh_scat (sh_c [97]) hv24) (sh_c [58])) hv25) (by decide)) hb (by omega) (by omega)
def tr_l92Bench : Tr :=
  (.evs [.call 0 [(.int .i64 4), (.var 1), (.var 2)] none 3]
  (.lp 0 [(.int .i64 0), (.val (.string ⟨#[]⟩)), (.var 4), (.var 5)] [.int .i64, .str, .sl, .int .i64]
  (.ite (.cmp .lss (.var 6) (.var 3))
   (.ite (.cmp .gtr (.var 6) (.int .i64 0))
    (.evs [.need [(.cmp .leq (.len (.var 7)) (.ar .sub .i64 (.int .i64 9223372036854775807) (.len (.val (.string ⟨#[32]⟩)))))]]
     (.evs [.call 1 [(.var 0), (.var 8), (.var 9)] none 3,
       .need [(.cmp .leq (.len (.scat (.var 7) (.val (.string ⟨#[32]⟩)))) (.ar .sub .i64 (.int .i64 9223372036854775807) (.len (.var 10))))]]
     (.next 0 [(.ar .add .i64 (.var 6) (.int .i64 1)), (.scat (.scat (.var 7) (.val (.string ⟨#[32]⟩))) (.var 10)), (.var 11), (.var 12)])))
    (.evs [.call 1 [(.var 0), (.var 8), (.var 9)] none 3,
       .need [(.cmp .leq (.len (.var 7)) (.ar .sub .i64 (.int .i64 9223372036854775807) (.len (.var 10))))]]
     (.next 0 [(.ar .add .i64 (.var 6) (.int .i64 1)), (.scat (.var 7) (.var 10)), (.var 11), (.var 12)])))
   (.evs [.call 0 [(.int .i64 20), (.var 8), (.var 9)] none 3]
    (.ite (.cmp .eql (.var 10) (.int .i64 0))
    (.evs [.call 2 [(.var 11), (.var 12), (.val (.string ⟨#[32]⟩)), (.val (.string ⟨#[120]⟩)), (.val (.string ⟨#[114, 48, 58, 48]⟩)), (.val (.string ⟨#[32, 119, 49, 58, 49, 58, 52]⟩)), (.val (.string ⟨#[32, 97, 51, 58, 50]⟩)), (.val (.string ⟨#[32, 102, 48, 49, 58, 49]⟩)), (.val (.string ⟨#[32, 114, 45, 48, 58, 49]⟩)), (.val (.string ⟨#[32, 100, 49, 58, 48]⟩))] none 11,
       .need [(.cmp .leq (.len (.var 7)) (.ar .sub .i64 (.int .i64 9223372036854775807) (.len (.var 13))))]]
     (.ret [(.scat (.var 7) (.var 13)), (.var 14), (.var 15)]))
    (.ret [(.var 7), (.var 11), (.var 12)]))))))
def Ss_l92Bench (cb : CodeB) : List Spec := [(F_pickC cb).spec, (SP_l92Piece cb), (SP_ofC cb)]
def SP_l92Bench (cb : CodeB) : Spec := drawT cb 100 100 100000
set_option maxHeartbeats 2000000 in
theorem sat_l92Bench (P : Program) (cb : CodeB) (hk : CodeOk cb) (ins : List Value) (K : List Value → Prop) (_ : TypedL [.bool, .sl, .int .i64] ins) (h : SP_l92Bench cb ins K) : sat P (Ss_l92Bench cb) tr_l92Bench ins [] K := by
  obtain ⟨f, b, z, rfl, hb, h0, hz, hK⟩ := h
  refine evs_step (pk_step hk rfl 4 rfl rfl rfl (by omega) hb (by omega) fun nn n0 n1 => evs_nil ?_)
  refine ⟨fun vs => ∃ (j : Nat) (v b' : Value) (z' : Int), (j : Int) ≤ nn ∧ vs = [.int .i64 j, v, b', .int .i64 z'] ∧ Sh (16 * j) v ∧ goodSl cb b' ∧ 0 ≤ z' ∧ z' ≤ z + 1 + 10 * j, fun vs => (nn - toI (vs.getD 0 undef)).toNat, ?_, ?_⟩
  · exact ⟨0, _, b, z + 1, by omega, rfl, sh_c [], hb, by omega, by omega⟩
  · rintro vs _ ⟨j, v, b', z', hj, rfl, hv, hb', z0, z1⟩
    refine ⟨fun h => ?_, fun h => ?_⟩
    · have hlt : (j : Int) < nn := by
        have : decide ((j : Int) < nn) = true := Value.bool.inj h
        simpa using this
      have hw : IntKind.i64.wrap ((j : Int) + 1) = ((j + 1 : Nat) : Int) := by rw [wrap_in (by omega)]; omega
      refine ⟨fun _ => ?_, fun _ => ?_⟩
      · refine evs_step (needs_sh (m := 16 * j) (n := 1) hv (sh_c [32]) (by omega) (evs_nil ?_))
        refine evs_step (call_step rfl ⟨f, b', z', rfl, hb', z0, by omega, fun u b1 q hu hb1 q0 q1 => ?_⟩)
        refine needs_sh (m := 16 * j + 1) (n := 15) (sh_cat hv (sh_c [32])) hu (by omega) (evs_nil ?_)
        refine ⟨⟨j + 1, _, b1, q, by omega, ?_, sh_mono (sh_cat (sh_cat hv (sh_c [32])) hu) (by show 16 * j + 1 + 15 ≤ 16 * (j + 1); omega), hb1, q0, by omega⟩, ?_⟩
        · show [Value.int .i64 (IntKind.i64.wrap ((j : Int) + 1)), _, b1, .int .i64 q] = _
          rw [hw]; rfl
        · show (nn - toI (.int .i64 (IntKind.i64.wrap ((j : Int) + 1)))).toNat < (nn - toI (.int .i64 (j : Int))).toNat
          rw [hw]
          simp only [toI_int]
          omega
      · refine evs_step (call_step rfl ⟨f, b', z', rfl, hb', z0, by omega, fun u b1 q hu hb1 q0 q1 => ?_⟩)
        refine needs_sh (m := 16 * j) (n := 15) hv hu (by omega) (evs_nil ?_)
        refine ⟨⟨j + 1, _, b1, q, by omega, ?_, sh_mono (sh_cat hv hu) (by omega), hb1, q0, by omega⟩, ?_⟩
        · show [Value.int .i64 (IntKind.i64.wrap ((j : Int) + 1)), _, b1, .int .i64 q] = _
          rw [hw]; rfl
        · show (nn - toI (.int .i64 (IntKind.i64.wrap ((j : Int) + 1)))).toNat < (nn - toI (.int .i64 (j : Int))).toNat
          rw [hw]
          simp only [toI_int]
          omega
    · refine evs_step (pk_step hk rfl 20 rfl rfl rfl (by omega) hb' (by omega) fun x x0 x1 => evs_nil ?_)
      have hj3 : j ≤ 3 := by omega
      refine ⟨fun _ => ?_, fun _ => ?_⟩
      · refine evs_step (call_step rfl ⟨b', z' + 1, _, _, _, _, _, _, _, _, rfl, hb', by omega, by omega, fun c hc => ?_, fun u b1 q hu hb1 q0 q1 => ?_⟩)
        · simp only [List.mem_cons, List.not_mem_nil, or_false] at hc
          rcases hc with rfl | rfl | rfl | rfl | rfl | rfl | rfl | rfl
          · exact sh_mono (sh_c [32]) (by decide)
          · exact sh_mono (sh_c [120]) (by decide)
          · exact sh_mono (sh_c [114, 48, 58, 48]) (by decide)
          · exact sh_mono (sh_c [32, 119, 49, 58, 49, 58, 52]) (by decide)
          · exact sh_mono (sh_c [32, 97, 51, 58, 50]) (by decide)
          · exact sh_mono (sh_c [32, 102, 48, 49, 58, 49]) (by decide)
          · exact sh_mono (sh_c [32, 114, 45, 48, 58, 49]) (by decide)
          · exact sh_mono (sh_c [32, 100, 49, 58, 48]) (by decide)
        · refine needs_sh (m := 16 * j) (n := 8) hv hu (by omega) (evs_nil ?_)
          exact hK _ _ _ (sh_mono (sh_cat hv hu) (by omega)) hb1 q0 (by omega)
      · exact hK _ _ _ (sh_mono hv (by omega)) hb' (by omega) (by omega)
def tr_opposite : Tr :=
  (.ret [(.ar .sub .i64 (.int .i64 0) (.var 0)), (.ar .sub .i64 (.int .i64 0) (.var 1)), (.var 2)])
def Fs_opposite : List Fun1 := []
def F_opposite : Fun1 := ofTree Fs_opposite tr_opposite
def tr_iMatRotator : Tr :=
  (.evs [.call 0 [(.var 0), (.var 1)] none 7]
  (.ite (.not (.var 8))
  (.ret [(.int .i64 0), (.int .i64 0), (.int .i64 0), (.int .i64 0), (.int .i64 0), (.int .i64 0), (.int .i64 0), (.int .i64 0), (.int .i64 0), (.int .i64 0), (.int .i64 0), (.int .i64 0), (.bool false)])
  (.evs [.call 1 [(.var 5), (.var 6), (.var 7)] none 3]
   (.ret [(.var 2), (.var 3), (.var 4), (.var 9), (.var 10), (.var 11), (.var 5), (.var 6), (.var 7), (.var 2), (.var 3), (.var 4), (.bool true)]))))
def Fs_iMatRotator : List Fun1 := [G_direction, F_opposite]
def F_iMatRotator : Fun1 := ofTree Fs_iMatRotator tr_iMatRotator
def rotH (p q : Int) (i : Nat) : Int :=
  if dirOk p q = true then
    (if i = 0 then ((dirC p q).getD zq).1 else if i = 1 then ((dirC p q).getD zq).2.1 else if i = 2 then ((dirC p q).getD zq).2.2
     else if i = 3 then -((dirS p q).getD zq).1 else if i = 4 then 0 else if i = 5 then ((dirS p q).getD zq).2.2
     else if i = 6 then ((dirS p q).getD zq).1 else if i = 7 then ((dirS p q).getD zq).2.1 else if i = 8 then ((dirS p q).getD zq).2.2
     else if i = 9 then ((dirC p q).getD zq).1 else if i = 10 then ((dirC p q).getD zq).2.1 else ((dirC p q).getD zq).2.2)
  else 0
def rotW (p q : Int) : List Value := ivs (rotH p q) 0 12 ++ [.bool (dirOk p q)]
theorem dirS_wrap (p q : Int) : IntKind.i64.wrap (0 - ((dirS p q).getD zq).1) = -((dirS p q).getD zq).1 ∧ IntKind.i64.wrap (0 - ((dirS p q).getD zq).2.1) = 0 := by
  cases h : dirS p q with
  | none => exact ⟨rfl, rfl⟩
  | some v =>
    have hd : dirOk p q = true := by
      unfold dirS at h
      cases hd : dirOk p q with
      | true => rfl
      | false => rw [hd] at h; cases h
    have hl : lowI (2 * p * q) 0 (p * p + q * q) = some v := by
      unfold dirS at h
      rw [if_pos hd] at h
      exact h
    have h0 := low_real hl
    obtain ⟨_, l2, _⟩ := dir_facts hd
    obtain ⟨b1, b2, b3⟩ := valid_bounds (low_valid l2 hl)
    refine ⟨?_, ?_⟩
    · show IntKind.i64.wrap (0 - v.1) = -v.1
      rw [wrap_in (by omega)]; omega
    · show IntKind.i64.wrap (0 - v.2.1) = 0
      rw [h0]; rfl
def adjG (a b c d : Option Q) (i : Nat) : Int :=
  if (a.isSome && b.isSome && c.isSome && d.isSome) = true then
    (if i = 0 then (a.getD zq).1 else if i = 1 then (a.getD zq).2.1 else if i = 2 then (a.getD zq).2.2
     else if i = 3 then (b.getD zq).1 else if i = 4 then (b.getD zq).2.1 else if i = 5 then (b.getD zq).2.2
     else if i = 6 then (c.getD zq).1 else if i = 7 then (c.getD zq).2.1 else if i = 8 then (c.getD zq).2.2
     else if i = 9 then (d.getD zq).1 else if i = 10 then (d.getD zq).2.1 else (d.getD zq).2.2)
  else 0
def adjV (a b c d : Option Q) : List Value := ivs (adjG a b c d) 0 12 ++ [.bool (a.isSome && b.isSome && c.isSome && d.isSome)]
def adjW (ins : List Value) : List Value := adjV (mirQ (q3 ins 0)) (mirQ (q3 ins 6)) (mirQ (q3 ins 3)) (mirQ (q3 ins 9))
def andV (x y : Value) : Value := if toB x = true then y else .bool false
theorem adj_one (a b c d : Option Q) : gotV (((!a.isSome || !b.isSome) || !c.isSome) || !d.isSome) (fr3 a ++ (fr3 b ++ (fr3 c ++ fr3 d))) 0 12 ++ [.bool (!(((!a.isSome || !b.isSome) || !c.isSome) || !d.isSome))] = adjV a b c d := by
  cases a <;> cases b <;> cases c <;> cases d <;> rfl
def filtI (k : Bool) (a b d : Option Q) : List Value := gotV (((((false || !k) || !a.isSome) || !b.isSome) || !b.isSome) || !d.isSome) (fr3 a ++ (fr3 b ++ (fr3 b ++ fr3 d))) 0 12 ++ [.bool (!(((((false || !k) || !a.isSome) || !b.isSome) || !b.isSome) || !d.isSome))]
def filtG (k : Bool) (a b d : Option Q) (i : Nat) : Int :=
  if (k && (a.isSome && (b.isSome && d.isSome))) = true then
    (if i = 0 then (a.getD zq).1 else if i = 1 then (a.getD zq).2.1 else if i = 2 then (a.getD zq).2.2
     else if i = 3 then (b.getD zq).1 else if i = 4 then (b.getD zq).2.1 else if i = 5 then (b.getD zq).2.2
     else if i = 6 then (b.getD zq).1 else if i = 7 then (b.getD zq).2.1 else if i = 8 then (b.getD zq).2.2
     else if i = 9 then (d.getD zq).1 else if i = 10 then (d.getD zq).2.1 else (d.getD zq).2.2)
  else 0
def filtV (k : Bool) (a b d : Option Q) : List Value := ivs (filtG k a b d) 0 12 ++ [.bool (k && (a.isSome && (b.isSome && d.isSome)))]
theorem filt_one (k : Bool) (a b d : Option Q) : filtI k a b d = filtV k a b d := by
  cases k <;> cases a <;> cases b <;> cases d <;> rfl
def filtW (p q : Int) : List Value := filtV (dirOk p q) (timesQ ((dirC p q).getD zq) ((dirC p q).getD zq)) (timesQ ((dirC p q).getD zq) ((dirS p q).getD zq)) (timesQ ((dirS p q).getD zq) ((dirS p q).getD zq))
def turnW (k : Int) : List Value := [if toB (Value.bool (k == 0)) = true then .int .i64 1 else if toB (Value.bool (k == 1)) = true then .int .i64 0 else if toB (Value.bool (k == 2)) = true then .int .i64 (-1) else .int .i64 0,
  if toB (Value.bool (k == 0)) = true then .int .i64 0 else if toB (Value.bool (k == 1)) = true then .int .i64 1 else if toB (Value.bool (k == 2)) = true then .int .i64 0 else .int .i64 (-1),
  if toB (Value.bool (k == 0)) = true then .int .i64 1 else if toB (Value.bool (k == 1)) = true then .int .i64 1 else if toB (Value.bool (k == 2)) = true then .int .i64 1 else .int .i64 1]
def diagW (k : Int) : List Value := [.int .i64 1, .int .i64 0, .int .i64 1, .int .i64 0, .int .i64 0, .int .i64 1, .int .i64 0, .int .i64 0, .int .i64 1] ++ turnW k
def mulW (ins : List Value) : List Value := nttW 4 (matQ (fun k => q3 ins (3 * k)) && matQ (fun k => q3 ins (12 + 3 * k))) (mulM (fun k => q3 ins (3 * k)) (fun k => q3 ins (12 + 3 * k)))
def plA (g : Nat → Int) (k : Int) : List Value := mulW (ivs g 0 12 ++ diagW k)
def plM (g : Nat → Int) (k : Int) : List Value := mulW ((plA g k).take 12 ++ (adjW (ivs g 0 12)).take 12)
def plateV (p q k : Int) : List Value :=
  if (dirOk p q && (inRg k 0 3 && (b0 (plA (rotH p q) k) 12 && b0 (plM (rotH p q) k) 12))) = true then (plM (rotH p q) k).take 12 ++ [.bool true] else zeros 12 ++ [.bool false]
theorem plate_lit (p q k : Int) : ∃ (g : Nat → Int) (b : Bool), plateV p q k = ivs g 0 12 ++ [.bool b] := by
  unfold plateV
  split
  · exact ⟨_, true, rfl⟩
  · exact ⟨fun _ => 0, false, rfl⟩
def G_iMatRotator : Fun1 := ⟨fun _ => True, fun ins => rotW (i0 ins 0) (i0 ins 1)⟩
theorem as_iMatRotator (ins : List Value) (ht : TypedL [.int .i64, .int .i64] ins) (_ : G_iMatRotator.pre ins) : F_iMatRotator.pre ins ∧ F_iMatRotator.out ins = G_iMatRotator.out ins := by
  obtain ⟨p, q, rfl, wp, wq⟩ := ints2 ht
  obtain ⟨w1, w2⟩ := dirS_wrap p q
  rw [Int.zero_sub] at w1 w2
  simp only [F_iMatRotator, G_iMatRotator, tr_iMatRotator, Fs_iMatRotator, G_direction, F_opposite, tr_opposite, Fs_opposite, dirV, fr3, arI, ofTree, okT, okE, evalT, evalE, evsIn, ev, callF, preF, hasF, needs, i0, b0, toI_int, toB_bool, List.getD_cons_zero, List.getD_cons_succ, List.cons_append, List.nil_append, List.replicate, if_true, if_false, Bool.false_eq_true, and_true, true_and, implies_true, forall_const, false_implies, cmpI, Bool.not_true, Bool.not_false, Bool.true_and, Bool.false_and, Bool.and_true, Bool.and_false, reduceIte, List.append_nil, reduceCtorEq]
  cases h : dirOk p q
  · simp [h, rotW, rotH, ivs]
  · simp [h, rotW, rotH, ivs, w1, w2]
def tr_iMatAdjoint : Tr :=
  (.evs [.call 0 [(.var 0), (.var 1), (.var 2), (.bool false)] none 4,
    .call 0 [(.var 6), (.var 7), (.var 8), (.var 15)] none 4,
    .call 0 [(.var 3), (.var 4), (.var 5), (.var 19)] none 4,
    .call 0 [(.var 9), (.var 10), (.var 11), (.var 23)] none 4,
    .call 1 [(.var 12), (.var 13), (.var 14), (.var 16), (.var 17), (.var 18), (.var 20), (.var 21), (.var 22), (.var 24), (.var 25), (.var 26), (.var 27)] none 14]
  (.ret [(.var 28), (.var 29), (.var 30), (.var 31), (.var 32), (.var 33), (.var 34), (.var 35), (.var 36), (.var 37), (.var 38), (.var 39), (.var 40)]))
def Fs_iMatAdjoint : List Fun1 := [G_mirror, G_gotMat]
def F_iMatAdjoint : Fun1 := ofTree Fs_iMatAdjoint tr_iMatAdjoint
def G_iMatAdjoint : Fun1 := ⟨fun _ => True, adjW⟩
theorem adj_iI (g : Nat → Int) : F_iMatAdjoint.out (ivs g 0 12) = gotV ((((!(mirQ (q3 (ivs g 0 12) 0)).isSome || !(mirQ (q3 (ivs g 0 12) 6)).isSome) || !(mirQ (q3 (ivs g 0 12) 3)).isSome) || !(mirQ (q3 (ivs g 0 12) 9)).isSome)) (fr3 (mirQ (q3 (ivs g 0 12) 0)) ++ (fr3 (mirQ (q3 (ivs g 0 12) 6)) ++ (fr3 (mirQ (q3 (ivs g 0 12) 3)) ++ fr3 (mirQ (q3 (ivs g 0 12) 9))))) 0 12 ++ [.bool (!(((!(mirQ (q3 (ivs g 0 12) 0)).isSome || !(mirQ (q3 (ivs g 0 12) 6)).isSome) || !(mirQ (q3 (ivs g 0 12) 3)).isSome) || !(mirQ (q3 (ivs g 0 12) 9)).isSome))] := by
  kernel_rfl
theorem as_iMatAdjoint (ins : List Value) (ht : TypedL (intTs 12 ++ []) ins) (_ : G_iMatAdjoint.pre ins) : F_iMatAdjoint.pre ins ∧ F_iMatAdjoint.out ins = G_iMatAdjoint.out ins := by
  obtain ⟨g, r, rfl, h1, _⟩ := ints_lit 12 0 ht
  obtain rfl := ints0 h1
  rw [List.append_nil]
  exact ⟨okT_free (by intro F hF ins; simp only [Fs_iMatAdjoint, List.mem_cons, List.not_mem_nil, or_false] at hF; rcases hF with rfl | rfl <;> trivial) _ _ (by kernel_rfl), (adj_iI g).trans (adj_one _ _ _ _)⟩
def tr_iMatPlate : Tr :=
  (.evs [.call 0 [(.var 0), (.var 1)] none 13]
  (.evs [.call 1 [(.var 2), (.int .i64 0), (.int .i64 3)] (some (.not (.not (.var 15)))) 1]
  (.ite (.ite (.not (.var 15)) (.bool true) (.not (.var 16)))
  (.ret [(.int .i64 0), (.int .i64 0), (.int .i64 0), (.int .i64 0), (.int .i64 0), (.int .i64 0), (.int .i64 0), (.int .i64 0), (.int .i64 0), (.int .i64 0), (.int .i64 0), (.int .i64 0), (.bool false)])
  (.evs [.need [(.cmp .leq (.int .i64 0) (.var 2)), (.cmp .lss (.var 2) (.int .i64 4))],
     .need [(.cmp .leq (.int .i64 0) (.var 2)), (.cmp .lss (.var 2) (.int .i64 4))],
     .call 2 [(.var 3), (.var 4), (.var 5), (.var 6), (.var 7), (.var 8), (.var 9), (.var 10), (.var 11), (.var 12), (.var 13), (.var 14), (.int .i64 1), (.int .i64 0), (.int .i64 1), (.int .i64 0), (.int .i64 0), (.int .i64 1), (.int .i64 0), (.int .i64 0), (.int .i64 1), (.ite (.cmp .eql (.var 2) (.int .i64 0)) (.int .i64 1) (.ite (.cmp .eql (.var 2) (.int .i64 1)) (.int .i64 0) (.ite (.cmp .eql (.var 2) (.int .i64 2)) (.int .i64 (-1)) (.int .i64 0)))), (.ite (.cmp .eql (.var 2) (.int .i64 0)) (.int .i64 0) (.ite (.cmp .eql (.var 2) (.int .i64 1)) (.int .i64 1) (.ite (.cmp .eql (.var 2) (.int .i64 2)) (.int .i64 0) (.int .i64 (-1))))), (.ite (.cmp .eql (.var 2) (.int .i64 0)) (.int .i64 1) (.ite (.cmp .eql (.var 2) (.int .i64 1)) (.int .i64 1) (.ite (.cmp .eql (.var 2) (.int .i64 2)) (.int .i64 1) (.int .i64 1))))] none 13]
   (.evs [.call 3 [(.var 3), (.var 4), (.var 5), (.var 6), (.var 7), (.var 8), (.var 9), (.var 10), (.var 11), (.var 12), (.var 13), (.var 14)] none 13]
   (.evs [.call 2 [(.var 17), (.var 18), (.var 19), (.var 20), (.var 21), (.var 22), (.var 23), (.var 24), (.var 25), (.var 26), (.var 27), (.var 28), (.var 30), (.var 31), (.var 32), (.var 33), (.var 34), (.var 35), (.var 36), (.var 37), (.var 38), (.var 39), (.var 40), (.var 41)] none 13]
   (.ite (.ite (.not (.var 29)) (.bool true) (.not (.var 55)))
   (.ret [(.int .i64 0), (.int .i64 0), (.int .i64 0), (.int .i64 0), (.int .i64 0), (.int .i64 0), (.int .i64 0), (.int .i64 0), (.int .i64 0), (.int .i64 0), (.int .i64 0), (.int .i64 0), (.bool false)])
   (.ret [(.var 43), (.var 44), (.var 45), (.var 46), (.var 47), (.var 48), (.var 49), (.var 50), (.var 51), (.var 52), (.var 53), (.var 54), (.bool true)]))))))))
def Fs_iMatPlate : List Fun1 := [G_iMatRotator, G_within, G_iMatTimes, G_iMatAdjoint]
def SP_iMatPlate : Spec := fun ins K => ∃ p q k, ins = [.int .i64 p, .int .i64 q, .int .i64 k] ∧ K (plateV p q k)
set_option maxHeartbeats 2000000 in
theorem sat_iMatPlate (P : Program) (ins : List Value) (K : List Value → Prop) (_ : TypedL [.int .i64, .int .i64, .int .i64] ins) (h : SP_iMatPlate ins K) : sat P (specsOf Fs_iMatPlate) tr_iMatPlate ins [] K := by
  obtain ⟨p, q, k, rfl, hK⟩ := h
  unfold plateV at hK
  refine evs_step (call_step rfl ⟨trivial, evs_nil ?_⟩)
  show sat P _ _ ([.int .i64 p, .int .i64 q, .int .i64 k] ++ (ivs (rotH p q) 0 12 ++ [.bool (dirOk p q)])) [] K
  generalize rotH p q = g at *
  cases hd : dirOk p q with
  | false =>
    rw [hd] at hK
    exact evs_step (callg_step rfl (fun h => by cases h) (fun _ => evs_nil (ite_t rfl hK)))
  | true =>
    refine evs_step (callg_step rfl (fun _ => ⟨trivial, evs_nil ?_⟩) (fun h => by cases h))
    show sat P _ _ ([.int .i64 p, .int .i64 q, .int .i64 k] ++ (ivs g 0 12 ++ [.bool true]) ++ [.bool (inRg k 0 3)]) [] K
    rw [hd, Bool.true_and] at hK
    cases hk : inRg k 0 3 with
    | false =>
      rw [hk] at hK
      exact ite_t rfl hK
    | true =>
      rw [hk, Bool.true_and] at hK
      have hk2 : 0 ≤ k ∧ k ≤ 3 := by simpa [inRg] using hk
      have n1 : Value.bool (decide ((0 : Int) ≤ k)) = .bool true := bt hk2.1
      have n2 : Value.bool (decide (k < (4 : Int))) = .bool true := bt (by omega)
      refine ite_f rfl (evs_step (need_step (all_cons n1 (all_cons n2 all_nil)) (need_step (all_cons n1 (all_cons n2 all_nil)) (call_step rfl ⟨trivial, evs_nil ?_⟩))))
      refine evs_step (call_step rfl ⟨trivial, evs_nil ?_⟩)
      refine evs_step (call_step rfl ⟨trivial, evs_nil ?_⟩)
      refine ⟨fun h => ?_, fun h => ?_⟩
      · have h' : (if toB (.bool (!(b0 (plA g k) 12))) = true then Value.bool true else .bool (!(b0 (plM g k) 12))) = .bool true := Eq.trans (by kernel_rfl) h
        have hf : (b0 (plA g k) 12 && b0 (plM g k) 12) = false := by
          generalize b0 (plA g k) 12 = x at h'
          generalize b0 (plM g k) 12 = y at h'
          cases x <;> cases y <;> first | rfl | cases h'
        rw [hf] at hK
        exact hK
      · have h' : (if toB (.bool (!(b0 (plA g k) 12))) = true then Value.bool true else .bool (!(b0 (plM g k) 12))) = .bool false := Eq.trans (by kernel_rfl) h
        have hf : (b0 (plA g k) 12 && b0 (plM g k) 12) = true := by
          generalize b0 (plA g k) 12 = x at h'
          generalize b0 (plM g k) 12 = y at h'
          cases x <;> cases y <;> first | rfl | cases h'
        rw [hf] at hK
        have hK : K ((plM g k).take 12 ++ [.bool true]) := hK
        refine Eq.mp (congrArg K ?_) hK
        kernel_rfl
def tr_iMatFilter : Tr :=
  (.evs [.call 0 [(.var 0), (.var 1)] none 7]
  (.evs [.call 1 [(.var 8), (.bool false)] none 1]
  (.evs [.call 2 [(.var 2), (.var 3), (.var 4), (.var 2), (.var 3), (.var 4), (.var 9)] none 4,
    .call 2 [(.var 2), (.var 3), (.var 4), (.var 5), (.var 6), (.var 7), (.var 13)] none 4,
    .call 2 [(.var 2), (.var 3), (.var 4), (.var 5), (.var 6), (.var 7), (.var 17)] none 4,
    .call 2 [(.var 5), (.var 6), (.var 7), (.var 5), (.var 6), (.var 7), (.var 21)] none 4,
    .call 3 [(.var 10), (.var 11), (.var 12), (.var 14), (.var 15), (.var 16), (.var 18), (.var 19), (.var 20), (.var 22), (.var 23), (.var 24), (.var 25)] none 14]
  (.ret [(.var 26), (.var 27), (.var 28), (.var 29), (.var 30), (.var 31), (.var 32), (.var 33), (.var 34), (.var 35), (.var 36), (.var 37), (.var 38)]))))
def Fs_iMatFilter : List Fun1 := [G_direction, G_need, G_times, G_gotMat]
def F_iMatFilter : Fun1 := ofTree Fs_iMatFilter tr_iMatFilter
def G_iMatFilter : Fun1 := ⟨fun _ => True, fun ins => filtW (i0 ins 0) (i0 ins 1)⟩
theorem filt_iI (p q : Int) : F_iMatFilter.out [.int .i64 p, .int .i64 q] = filtI (dirOk p q) (timesQ ((dirC p q).getD zq) ((dirC p q).getD zq)) (timesQ ((dirC p q).getD zq) ((dirS p q).getD zq)) (timesQ ((dirS p q).getD zq) ((dirS p q).getD zq)) := by kernel_rfl
theorem as_iMatFilter (ins : List Value) (ht : TypedL [.int .i64, .int .i64] ins) (_ : G_iMatFilter.pre ins) : F_iMatFilter.pre ins ∧ F_iMatFilter.out ins = G_iMatFilter.out ins := by
  obtain ⟨p, q, rfl, wp, wq⟩ := ints2 ht
  exact ⟨okT_free (by intro F hF ins; simp only [Fs_iMatFilter, List.mem_cons, List.not_mem_nil, or_false] at hF; rcases hF with rfl | rfl | rfl | rfl <;> trivial) _ _ (by kernel_rfl), (filt_iI p q).trans (filt_one _ _ _ _)⟩
def tr_share : Tr :=
  (.evs [.need [(.inb (.var 3) (.int .i64 0) 1), (.inb (.var 3) (.int .i64 1) 1)],
    .need [(.inb (.var 3) (.int .i64 0) 1), (.inb (.var 3) (.int .i64 1) 1)],
    .call 0 [(.sel (.var 3) (.int .i64 0) 1 0), (.int .i64 0), (.sel (.var 3) (.int .i64 1) 1 0)] none 4]
  (.ret [(.var 4), (.var 5), (.var 6)]))
def Fs_share : List Fun1 := [G_lowest]
theorem seq_self (a : List UInt8) : ((strV (bv a)).toList == (strV (bv a)).toList) = true := by rw [seq_bv]; simp
def shareQ (ns : List Int) : Option Q := lowI (ns.getD 0 0) 0 (ns.getD 1 0)
def noMat : List Value := zeros 12 ++ [.bool false]
def scalW (a : Option Q) : List Value := fr3 a ++ ([.int .i64 0, .int .i64 0, .int .i64 1, .int .i64 0, .int .i64 0, .int .i64 1] ++ (fr3 a ++ [.bool true]))
def pieceM (k : UInt8) (ns : List Int) : List Value :=
  if k = 114 then rotW (ns.getD 0 0) (ns.getD 1 0) else if k = 119 then plateV (ns.getD 0 0) (ns.getD 1 0) (ns.getD 2 0)
  else if k = 102 then filtW (ns.getD 0 0) (ns.getD 1 0) else if k = 97 then scalW (shareQ ns) else noMat
theorem ok_two {k : UInt8} {ns : List Int} (hk : k = 114 ∨ k = 102 ∨ k = 97 ∨ k = 100) (h : okPiece k ns = true) : ∃ p q, ns = [p, q] := by
  by_cases h2 : ns.length = 2
  · exact two_list h2
  · rw [ok_len2 hk h2] at h; cases h
theorem ok_three {ns : List Int} (h : okPiece 119 ns = true) : ∃ p q r, ns = [p, q, r] := by
  by_cases h2 : ns.length = 3
  · exact three_list h2
  · rw [ok_len3 h2] at h; cases h
def partOk (n d : Int) : Prop := 0 ≤ n ∧ n ≤ d ∧ 1 ≤ d ∧ d ≤ 100
theorem ok_part {k : UInt8} {n d : Int} (hk : k = 97 ∨ k = 100) (h : okPiece k [n, d] = true) : partOk n d := by
  have h : (inRg d 1 100 && inRg n 0 d) = true := by
    rcases hk with rfl | rfl <;> exact h
  simp only [inRg, Bool.and_eq_true, decide_eq_true_eq] at h
  unfold partOk
  omega
def SP_part : Spec := fun ins K => ∃ k x t n d, ins = [k, x, t, rowI [n, d]] ∧ partOk n d ∧ K (fr3 (shareQ [n, d]))
def SP_pm : Spec := fun ins K => ∃ k x t ns, ins = [u8 k, x, t, rowI ns] ∧ okPiece k ns = true ∧ K (pieceM k ns)
theorem inb_two {p q : Int} : ∀ i : Nat, i < 2 → Value.bool (decide (0 ≤ (i : Int) ∧ ((i : Int).toNat + 1) * 1 ≤ (rowI [p, q]).cells.size)) = .bool true := fun i hi => inb_true (c := rowI [p, q]) (i := i) (n := 1) (by rw [rowI_size]; simp only [List.length_cons, List.length_nil]; omega)
theorem inb_three {p q r : Int} : ∀ i : Nat, i < 3 → Value.bool (decide (0 ≤ (i : Int) ∧ ((i : Int).toNat + 1) * 1 ≤ (rowI [p, q, r]).cells.size)) = .bool true := fun i hi => inb_true (c := rowI [p, q, r]) (i := i) (n := 1) (by rw [rowI_size]; simp only [List.length_cons, List.length_nil]; omega)
theorem all2 {p q : Int} {env : List Value} {x y : Ex} (h0 : ev env x = Value.bool (decide (0 ≤ ((0 : Nat) : Int) ∧ (((0 : Nat) : Int).toNat + 1) * 1 ≤ (rowI [p, q]).cells.size))) (h1 : ev env y = Value.bool (decide (0 ≤ ((1 : Nat) : Int) ∧ (((1 : Nat) : Int).toNat + 1) * 1 ≤ (rowI [p, q]).cells.size))) : AllTrue env [x, y] :=
  all_cons (h0.trans (inb_two 0 (by omega))) (all_cons (h1.trans (inb_two 1 (by omega))) all_nil)
theorem all3 {p q r : Int} {env : List Value} {x y z : Ex} (h0 : ev env x = Value.bool (decide (0 ≤ ((0 : Nat) : Int) ∧ (((0 : Nat) : Int).toNat + 1) * 1 ≤ (rowI [p, q, r]).cells.size))) (h1 : ev env y = Value.bool (decide (0 ≤ ((1 : Nat) : Int) ∧ (((1 : Nat) : Int).toNat + 1) * 1 ≤ (rowI [p, q, r]).cells.size))) (h2 : ev env z = Value.bool (decide (0 ≤ ((2 : Nat) : Int) ∧ (((2 : Nat) : Int).toNat + 1) * 1 ≤ (rowI [p, q, r]).cells.size))) : AllTrue env [x, y, z] :=
  all_cons (h0.trans (inb_three 0 (by omega))) (all_cons (h1.trans (inb_three 1 (by omega))) (all_cons (h2.trans (inb_three 2 (by omega))) all_nil))
def SP_share : Spec := SP_part
theorem sat_share (P : Program) (ins : List Value) (K : List Value → Prop) (_ : TypedL [.int .u8, .sl, .str, .row .i64 1] ins) (h : SP_share ins K) : sat P (specsOf Fs_share) tr_share ins [] K := by
  obtain ⟨k, x, t, n, d, rfl, ho, hK⟩ := h
  unfold partOk at ho
  refine evs_step (need_step (all2 (p := n) (q := d) rfl rfl) (need_step (all2 (p := n) (q := d) rfl rfl) (call_step rfl ⟨?_, evs_nil hK⟩)))
  show lowOk n 0 d
  unfold lowOk
  omega
def tr_mat : Tr :=
  (.ite (.cmp .eql (.var 0) (.int .u8 114))
  (.evs [.need [(.inb (.var 3) (.int .i64 0) 1), (.inb (.var 3) (.int .i64 1) 1)],
     .need [(.inb (.var 3) (.int .i64 0) 1), (.inb (.var 3) (.int .i64 1) 1)],
     .call 0 [(.sel (.var 3) (.int .i64 0) 1 0), (.sel (.var 3) (.int .i64 1) 1 0)] none 13]
   (.ret [(.var 4), (.var 5), (.var 6), (.var 7), (.var 8), (.var 9), (.var 10), (.var 11), (.var 12), (.var 13), (.var 14), (.var 15), (.var 16)]))
  (.ite (.cmp .eql (.var 0) (.int .u8 119))
   (.evs [.need [(.inb (.var 3) (.int .i64 0) 1), (.inb (.var 3) (.int .i64 1) 1), (.inb (.var 3) (.int .i64 2) 1)],
      .need [(.inb (.var 3) (.int .i64 0) 1), (.inb (.var 3) (.int .i64 1) 1), (.inb (.var 3) (.int .i64 2) 1)],
      .call 1 [(.sel (.var 3) (.int .i64 0) 1 0), (.sel (.var 3) (.int .i64 1) 1 0), (.sel (.var 3) (.int .i64 2) 1 0)] none 13]
    (.ret [(.var 4), (.var 5), (.var 6), (.var 7), (.var 8), (.var 9), (.var 10), (.var 11), (.var 12), (.var 13), (.var 14), (.var 15), (.var 16)]))
   (.ite (.cmp .eql (.var 0) (.int .u8 102))
    (.evs [.need [(.inb (.var 3) (.int .i64 0) 1), (.inb (.var 3) (.int .i64 1) 1)],
       .need [(.inb (.var 3) (.int .i64 0) 1), (.inb (.var 3) (.int .i64 1) 1)],
       .call 2 [(.sel (.var 3) (.int .i64 0) 1 0), (.sel (.var 3) (.int .i64 1) 1 0)] none 13]
     (.ret [(.var 4), (.var 5), (.var 6), (.var 7), (.var 8), (.var 9), (.var 10), (.var 11), (.var 12), (.var 13), (.var 14), (.var 15), (.var 16)]))
    (.ite (.cmp .eql (.var 0) (.int .u8 97))
     (.evs [.call 3 [(.var 0), (.var 1), (.var 2), (.var 3)] none 3,
        .call 3 [(.var 0), (.var 1), (.var 2), (.var 3)] none 3]
      (.ret [(.var 4), (.var 5), (.var 6), (.int .i64 0), (.int .i64 0), (.int .i64 1), (.int .i64 0), (.int .i64 0), (.int .i64 1), (.var 7), (.var 8), (.var 9), (.bool true)]))
     (.ret [(.int .i64 0), (.int .i64 0), (.int .i64 0), (.int .i64 0), (.int .i64 0), (.int .i64 0), (.int .i64 0), (.int .i64 0), (.int .i64 0), (.int .i64 0), (.int .i64 0), (.int .i64 0), (.bool false)])))))
def Ss_mat : List Spec := [G_iMatRotator.spec, SP_iMatPlate, G_iMatFilter.spec, SP_share]
def SP_mat : Spec := SP_pm
set_option maxHeartbeats 2000000 in
theorem sat_mat (P : Program) (ins : List Value) (K : List Value → Prop) (_ : TypedL [.int .u8, .sl, .str, .row .i64 1] ins) (h : SP_mat ins K) : sat P Ss_mat tr_mat ins [] K := by
  obtain ⟨k, x, t, ns, rfl, ho, hK⟩ := h
  rcases k_cases k with rfl | rfl | rfl | rfl | rfl | ⟨h1, h2, h3, h4, h5⟩
  · obtain ⟨p, q, rfl⟩ := ok_two (.inl rfl) ho
    refine ite_t rfl (evs_step (need_step (all2 (p := p) (q := q) rfl rfl) (need_step (all2 (p := p) (q := q) rfl rfl) (call_step rfl ⟨trivial, evs_nil ?_⟩))))
    have hK : K (rotW p q) := hK
    refine Eq.mp (congrArg K ?_) hK
    kernel_rfl
  · obtain ⟨p, q, rfl⟩ := ok_two (.inr (.inl rfl)) ho
    refine ite_f rfl (ite_f rfl (ite_t rfl (evs_step (need_step (all2 (p := p) (q := q) rfl rfl) (need_step (all2 (p := p) (q := q) rfl rfl) (call_step rfl ⟨trivial, evs_nil ?_⟩))))))
    have hK : K (filtW p q) := hK
    refine Eq.mp (congrArg K ?_) hK
    kernel_rfl
  · obtain ⟨p, q, r, rfl⟩ := ok_three ho
    refine ite_f rfl (ite_t rfl (evs_step (need_step (all3 (p := p) (q := q) (r := r) rfl rfl rfl) (need_step (all3 (p := p) (q := q) (r := r) rfl rfl rfl) (call_step rfl ⟨p, q, r, rfl, evs_nil ?_⟩)))))
    have hK : K (plateV p q r) := hK
    obtain ⟨g, b, e⟩ : ∃ (g : Nat → Int) (b : Bool), plateV p q r = ivs g 0 12 ++ [.bool b] := plate_lit p q r
    rw [e] at hK ⊢
    exact hK
  · obtain ⟨p, q, rfl⟩ := ok_two (.inr (.inr (.inl rfl))) ho
    have hp := ok_part (.inl rfl) ho
    refine ite_f rfl (ite_f rfl (ite_f rfl (ite_t rfl (evs_step (call_step rfl ⟨_, _, _, p, q, rfl, hp, call_step rfl ⟨_, _, _, p, q, rfl, hp, evs_nil ?_⟩⟩)))))
    exact hK
  · refine ite_f rfl (ite_f rfl (ite_f rfl (ite_f rfl ?_)))
    exact hK
  · rw [ok_other h1 h2 h3 h4 h5] at ho; cases ho
def tr_iBenchMat : Tr :=
  (.evs [.call 0 [(.var 0)] none 3]
  (.lp 0 [(.int .i64 0), (.var 2), (.int .i64 1), (.int .i64 0), (.int .i64 1), (.int .i64 0), (.int .i64 0), (.int .i64 1), (.int .i64 0), (.int .i64 0), (.int .i64 1), (.int .i64 1), (.int .i64 0), (.int .i64 1)] [.int .i64, .bool, .int .i64, .int .i64, .int .i64, .int .i64, .int .i64, .int .i64, .int .i64, .int .i64, .int .i64, .int .i64, .int .i64, .int .i64]
  (.ite (.cmp .lss (.var 4) (.len (.var 1)))
   (.evs [.need [(.inb (.var 3) (.var 4) 3)]]
    (.evs [.call 1 [(.sel (.var 3) (.var 4) 3 0), (.hd (.sel (.var 3) (.var 4) 3 1)), (.sel (.var 3) (.var 4) 3 2), (.tl (.sel (.var 3) (.var 4) 3 1))] none 13]
    (.evs [.call 2 [(.var 18), (.var 19), (.var 20), (.var 21), (.var 22), (.var 23), (.var 24), (.var 25), (.var 26), (.var 27), (.var 28), (.var 29), (.var 6), (.var 7), (.var 8), (.var 9), (.var 10), (.var 11), (.var 12), (.var 13), (.var 14), (.var 15), (.var 16), (.var 17)] none 13]
    (.next 0 [(.ar .add .i64 (.var 4) (.int .i64 1)), (.ite (.ite (.var 5) (.var 30) (.bool false)) (.var 43) (.bool false)), (.var 31), (.var 32), (.var 33), (.var 34), (.var 35), (.var 36), (.var 37), (.var 38), (.var 39), (.var 40), (.var 41), (.var 42)]))))
   (.ite (.not (.var 5))
    (.ret [(.int .i64 0), (.int .i64 0), (.int .i64 0), (.int .i64 0), (.int .i64 0), (.int .i64 0), (.int .i64 0), (.int .i64 0), (.int .i64 0), (.int .i64 0), (.int .i64 0), (.int .i64 0), (.bool false)])
    (.ret [(.var 6), (.var 7), (.var 8), (.var 9), (.var 10), (.var 11), (.var 12), (.var 13), (.var 14), (.var 15), (.var 16), (.var 17), (.bool true)])))))
def Ss_iBenchMat : List Spec := [SP_readBench, SP_mat, G_iMatTimes.spec]
theorem pieceM_lit (k : UInt8) (ns : List Int) : ∃ (g : Nat → Int) (b : Bool), pieceM k ns = ivs g 0 12 ++ [.bool b] := by
  unfold pieceM
  split
  · exact ⟨_, _, rfl⟩
  · split
    · exact plate_lit _ _ _
    · split
      · exact ⟨_, _, rfl⟩
      · split
        · refine ⟨fun i => if i = 0 then ((shareQ ns).getD zq).1 else if i = 1 then ((shareQ ns).getD zq).2.1 else if i = 2 then ((shareQ ns).getD zq).2.2 else if i = 5 then 1 else if i = 8 then 1 else if i = 9 then ((shareQ ns).getD zq).1 else if i = 10 then ((shareQ ns).getD zq).2.1 else if i = 11 then ((shareQ ns).getD zq).2.2 else 0, true, rfl⟩
        · exact ⟨fun _ => 0, false, rfl⟩
def mulT (h g : Nat → Int) : Bool := nttT 4 (matQ (fun k => q3 (ivs h 0 12 ++ ivs g 0 12) (3 * k)) && matQ (fun k => q3 (ivs h 0 12 ++ ivs g 0 12) (12 + 3 * k))) (mulM (fun k => q3 (ivs h 0 12 ++ ivs g 0 12) (3 * k)) (fun k => q3 (ivs h 0 12 ++ ivs g 0 12) (12 + 3 * k)))
def mulN (h g : Nat → Int) : Nat → Int := nttH 4 (matQ (fun k => q3 (ivs h 0 12 ++ ivs g 0 12) (3 * k)) && matQ (fun k => q3 (ivs h 0 12 ++ ivs g 0 12) (12 + 3 * k))) (mulM (fun k => q3 (ivs h 0 12 ++ ivs g 0 12) (3 * k)) (fun k => q3 (ivs h 0 12 ++ ivs g 0 12) (12 + 3 * k)))
def stepM (p : Pc) (acc : List Value) : Option (List Value) :=
  if (b0 (pieceM p.k p.ns) 12 && b0 (mulW ((pieceM p.k p.ns).take 12 ++ acc)) 12) = true then some ((mulW ((pieceM p.k p.ns).take 12 ++ acc)).take 12) else none
theorem stepM_lit {p : Pc} {h g : Nat → Int} {b : Bool} (e : pieceM p.k p.ns = ivs h 0 12 ++ [.bool b]) : stepM p (ivs g 0 12) = if (b && mulT h g) = true then some (ivs (mulN h g) 0 12) else none := by
  unfold stepM
  rw [e]
  rfl
def benchM (acc : Option (List Value)) : List Pc → Option (List Value)
  | [] => acc
  | p :: r => benchM (acc.bind (stepM p)) r
theorem benchM_snoc (p : Pc) : ∀ (l : List Pc) (acc : Option (List Value)), benchM acc (l ++ [p]) = (benchM acc l).bind (stepM p)
  | [], acc => rfl
  | q :: r, acc => benchM_snoc p r _
theorem benchM_none : ∀ l : List Pc, benchM none l = none
  | [] => rfl
  | _ :: r => benchM_none r
def oneG (i : Nat) : Int := if i = 0 then 1 else if i = 2 then 1 else if i = 5 then 1 else if i = 8 then 1 else if i = 9 then 1 else if i = 11 then 1 else 0
def benchMV (s : List UInt8) : List Value := match benchW s with
  | some ps => (match benchM (some (ivs oneG 0 12)) ps with
    | some acc => acc ++ [.bool true]
    | none => noMat)
  | none => noMat
theorem andV_b (a b : Bool) : andV (.bool a) (.bool b) = .bool (a && b) := by cases a <;> rfl
def BmAt (ps : List Pc) (i : Nat) (ok : Bool) (g : Nat → Int) : Prop := if ok = true then benchM (some (ivs oneG 0 12)) (ps.take i) = some (ivs g 0 12) else benchM (some (ivs oneG 0 12)) (ps.take i) = none
theorem bmAt_step {ps : List Pc} {i : Nat} {ok b : Bool} {g h : Nat → Int} {p : Pc} (ha : BmAt ps i ok g) (hp : ps[i]? = some p) (e : pieceM p.k p.ns = ivs h 0 12 ++ [.bool b]) : BmAt ps (i + 1) (ok && b && mulT h g) (mulN h g) := by
  unfold BmAt at ha ⊢
  have ht : ps.take (i + 1) = ps.take i ++ [p] := by rw [List.take_add_one, hp]; rfl
  rw [ht, benchM_snoc]
  cases ok with
  | false =>
    have ha : benchM (some (ivs oneG 0 12)) (ps.take i) = none := ha
    rw [ha]
    rfl
  | true =>
    have ha : benchM (some (ivs oneG 0 12)) (ps.take i) = some (ivs g 0 12) := ha
    rw [ha]
    show if (b && mulT h g) = true then stepM p (ivs g 0 12) = _ else stepM p (ivs g 0 12) = _
    rw [stepM_lit e]
    cases b && mulT h g <;> rfl
def SP_iBenchMat : Spec := fun ins K => ∃ s, ins = [bv s] ∧ s.length ≤ 2097152 ∧ K (benchMV s)
set_option maxHeartbeats 4000000 in
theorem sat_iBenchMat (P : Program) (ins : List Value) (K : List Value → Prop) (_ : TypedL [.str] ins) (h : SP_iBenchMat ins K) : sat P Ss_iBenchMat tr_iBenchMat ins [] K := by
  obtain ⟨s, rfl, hl, hK⟩ := h
  refine evs_step (call_step rfl ⟨s, rfl, hl, ?_⟩)
  unfold benchMV at hK
  cases hb : benchW s with
  | none =>
    rw [hb] at hK
    refine evs_nil ⟨fun vs => ∃ g : Nat → Int, vs = [.int .i64 0, .bool false] ++ ivs g 0 12, fun _ => 0, ⟨oneG, rfl⟩, ?_⟩
    rintro vs _ ⟨g, rfl⟩
    exact ite_f rfl (ite_t rfl hK)
  | some ps =>
    rw [hb] at hK
    dsimp only at hK
    have hok := benchW_ok hb
    intro a len cap l e1 hsl he
    subst he
    refine evs_nil ⟨fun vs => ∃ (i : Nat) (ok : Bool) (g : Nat → Int), vs = [.int .i64 i, .bool ok] ++ ivs g 0 12 ∧ i ≤ ps.length ∧ BmAt ps i ok g, fun vs => ps.length - (toI (vs.getD 0 undef)).toNat, ⟨0, true, oneG, rfl, by omega, rfl⟩, ?_⟩
    have h12 := (benchW_some hb).1
    have hll : l.length = ps.length := by rw [← e1, List.length_map]
    rintro vs _ ⟨i, ok, g, rfl, hi, hat⟩
    refine ⟨fun hc => ?_, fun hc => ?_⟩
    · have hlt : i < ps.length := by
        have hc : Value.bool (decide ((i : Int) < (ps.length : Int))) = .bool true := hc
        have := bt_of hc; omega
      have hlt2 : i < l.length := by omega
      have hx := List.getElem?_eq_getElem hlt2
      generalize l[i] = x at hx
      have hp : ps[i]? = some x.1 := by rw [← e1, List.getElem?_map, hx]; rfl
      obtain ⟨h, b, e⟩ := pieceM_lit x.1.k x.1.ns
      have hw : IntKind.i64.wrap ((i : Int) + 1) = ((i + 1 : Nat) : Int) := by rw [wrap_in (by omega)]; omega
      refine evs_step (need_step (all_cons (inb_true (c := rowB l) (i := i) (n := 3) (by rw [rowB_size]; omega)) all_nil) (evs_nil ?_))
      refine evs_step (call_step rfl ⟨x.1.k, x.2, bv x.1.t, x.1.ns, ?_, hok _ (List.mem_of_getElem? hp), evs_nil ?_⟩)
      · show [(rowB l).cells.getD ((i : Int).toNat * 3 + 0) undef, hdV ((rowB l).cells.getD ((i : Int).toNat * 3 + 1) undef), (rowB l).cells.getD ((i : Int).toNat * 3 + 2) undef, tlV ((rowB l).cells.getD ((i : Int).toNat * 3 + 1) undef)] = _
        rw [Int.toNat_natCast, rowB_get hx (by omega) rfl, rowB_get hx (by omega) rfl, rowB_get hx (by omega) rfl]
        rfl
      rw [e]
      refine evs_step (call_step rfl ⟨trivial, evs_nil ?_⟩)
      refine ⟨⟨i + 1, ok && b && mulT h g, mulN h g, ?_, by omega, bmAt_step hat hp e⟩, ?_⟩
      · refine Eq.trans (b := [.int .i64 (IntKind.i64.wrap ((i : Int) + 1)), andV (andV (.bool ok) (.bool b)) (.bool (mulT h g))] ++ ivs (mulN h g) 0 12) (by kernel_rfl) ?_
        rw [hw, andV_b, andV_b]
      · show ps.length - (toI (.int .i64 (IntKind.i64.wrap ((i : Int) + 1)))).toNat < ps.length - (toI (.int .i64 (i : Int))).toNat
        rw [hw]
        simp only [toI_int]
        omega
    · have hge : i = ps.length := by
        have hc : Value.bool (decide ((i : Int) < (ps.length : Int))) = .bool false := hc
        have := bf_of hc; omega
      subst hge
      unfold BmAt at hat
      rw [List.take_length] at hat
      cases ok with
      | false =>
        have hat : benchM (some (ivs oneG 0 12)) ps = none := hat
        rw [hat] at hK
        exact ite_t rfl hK
      | true =>
        have hat : benchM (some (ivs oneG 0 12)) ps = some (ivs g 0 12) := hat
        rw [hat] at hK
        exact ite_f rfl hK
def tr_DrawBenchTurned : Tr :=
  (.evs [.call 0 [(.var 0)] none 2]
  (.evs [.call 1 [(.bool true), (.var 1), (.var 2)] none 3]
  (.evs [.call 2 [(.var 4), (.var 5)] none 4]
  (.ret [(.var 3), (.var 6), (.var 7)]))))
def Ss_DrawBenchTurned (cb : CodeB) : List Spec := [(F_openC cb).spec, (SP_l92Bench cb), (F_l91Direction cb).spec]
def lenIs (o : Option (List AV)) (n : Nat) : Bool := match o with
  | some O => Nat.beq O.length n
  | none => false
theorem aok_len {cb : CodeB} {F : Fun1} {A : AF} {I : List AV} {n : Nat} {ins : List Value} (h : AOK cb F A) (hc : lenIs (A I) n = true) (hi : AAll cb I ins) {K : List Value → Prop} (hK : ∀ outs : List Value, outs.length = n → K outs) : F.spec ins K := by
  unfold lenIs at hc
  split at hc
  · rename_i O hA
    obtain ⟨h1, h2⟩ := h _ _ hA ins hi
    exact ⟨h1, hK _ (h2.len.trans (Nat.eq_of_beq_eq_true hc))⟩
  · cases hc
theorem law_draw {P : Program} {cb : CodeB} {sp : Spec} {specs : List Spec} {t : Tr} {n : Nat} {ins : List Value} {K : List Value → Prop} (D : List Value → Prop)
    (hsp : ∀ v (K : List Value → Prop), drawPre cb [v] → (∀ outs, D outs → K outs) → sp [v] K)
    (h : ∀ v outs, D outs → sat P (sp :: specs) t (v :: outs) [] K) (hp : (lawF cb).pre ins) (hK : K [.bool true]) :
    sat P (sp :: specs) (.ite (.cmp .gtr (.len (.var 0)) (.int .i64 1048576)) (.ret [.bool true]) (.evs [.call 0 [.var 0] none n] t)) ins [] K := by
  obtain ⟨a, m, cap, rfl, hm, hg⟩ := hp
  refine ⟨fun _ => hK, fun hc => ?_⟩
  have hm2 : m ≤ 1048576 := by
    have hc : Value.bool (decide ((m : Int) > 1048576)) = .bool false := hc
    simp only [Value.bool.injEq, decide_eq_false_iff_not] at hc
    omega
  refine evs_step (call_step rfl (hsp _ _ ⟨_, rfl, hg hm2⟩ fun outs ho => ?_))
  exact evs_nil (h _ outs ho)
def benchDrawN (cb : CodeB) (n : Nat) : Spec := fun ins K => drawPre cb ins ∧ ∀ v (outs : List Value), Sh 200 v → outs.length = n → K (v :: outs)
theorem law_benchN {P : Program} {cb : CodeB} {specs : List Spec} {t : Tr} {n m : Nat} {ins : List Value} {K : List Value → Prop}
    (h : ∀ v a (g : Nat → Int), a.length ≤ 200 → (∀ i, i < n → I64 (g i)) → sat P (tySpec (.str :: intTs n) (benchDrawN cb n) :: specs) t (v :: bv a :: ivs g 0 n) [] K) (hp : (lawF cb).pre ins) (hK : K [.bool true]) :
    sat P (tySpec (.str :: intTs n) (benchDrawN cb n) :: specs) (.ite (.cmp .gtr (.len (.var 0)) (.int .i64 1048576)) (.ret [.bool true]) (.evs [.call 0 [.var 0] none m] t)) ins [] K := by
  refine law_draw (fun outs => ∃ a g, outs = bv a :: ivs g 0 n ∧ a.length ≤ 200 ∧ ∀ i, i < n → I64 (g i)) (fun v K hp hK => ⟨hp, ?_⟩) ?_ hp hK
  · rintro _ outs ⟨a, rfl, ha⟩ hl ht
    obtain ⟨_, r, hr, _, ht2⟩ := TypedL_cons ht
    cases hr
    have ht2 : TypedL (intTs n ++ []) outs := by simpa using ht2
    obtain ⟨g, r2, rfl, h1, h2⟩ := ints_lit n 0 ht2
    obtain rfl := ints0 h1
    rw [List.append_nil] at *
    exact hK _ ⟨a, g, rfl, ha, fun i hi => h2 i (Nat.zero_le _) (by omega)⟩
  · rintro v _ ⟨a, g, rfl, ha, hg⟩
    exact h v a g ha hg
def SP_DrawBenchTurned (cb : CodeB) : Spec := benchDrawN cb 2
theorem sat_DrawBenchTurned (P : Program) (cb : CodeB) (hk : CodeOk cb) (ins : List Value) (K : List Value → Prop) (_ : TypedL [.sl] ins) (h : SP_DrawBenchTurned cb ins K) : sat P (Ss_DrawBenchTurned cb) tr_DrawBenchTurned ins [] K := by
  obtain ⟨⟨v, rfl, hv⟩, hK⟩ := h
  refine ⟨hv, ?_⟩
  refine ⟨true, openV v, 0, rfl, openV_good hv, by omega, by omega, fun v b' z' h1 hb z0 z1 => ?_⟩
  refine evs_nil (evs_step (call_step rfl ?_))
  show (F_l91Direction cb).spec [b', .int .i64 z'] _
  have hi : AAll cb [.good, .itv 0 200] [b', .int .i64 z'] := ⟨hb, ⟨z', rfl, z0, by omega⟩, trivial⟩
  refine aok_len (n := 4) (aok_l91Direction hk) (by kernel_rfl) hi fun outs ho => ?_
  match outs, ho with
  | [a, b, c, d], _ => exact evs_nil (hK _ [a, b] (sh_mono h1 (by decide)) rfl)
def tr_FnBenchTurned : Tr :=
  (.ite (.cmp .gtr (.len (.var 0)) (.int .i64 1048576))
  (.ret [(.bool true)])
  (.evs [.call 0 [(.var 0)] none 3]
   (.evs [.call 1 [(.var 1), (.var 2), (.var 3)] none 2]
   (.evs [.call 2 [(.var 1), (.var 2), (.var 3)] none 2]
   (.ite (.ite (.ite (.not (.eqb (.var 5) (.var 7))) (.bool true) (.not (.seq (.var 4) (.var 6)))) (.bool true) (.not (.var 5)))
   (.ret [(.ite (.eqb (.var 5) (.var 7)) (.seq (.var 4) (.var 6)) (.bool false))])
   (.evs [.call 1 [(.var 4), (.var 2), (.ar .sub .i64 (.int .i64 0) (.var 3))] none 2]
    (.evs [.call 3 [(.var 1)] none 13]
    (.evs [.call 3 [(.var 8)] none 13]
    (.evs [.call 4 [(.var 4)] none 1,
      .call 4 [(.var 1)] none 1]
    (.ret [(.ite (.cmp .eql (.var 36) (.ar .add .i64 (.var 37) (.int .i64 2))) (.ite (.ite (.ite (.not (.var 9)) (.bool true) (.not (.var 22))) (.bool true) (.not (.var 35))) (.bool true) (.ite (.cmp .eql (.var 10) (.var 23)) (.ite (.cmp .eql (.var 11) (.var 24)) (.ite (.cmp .eql (.var 12) (.var 25)) (.ite (.cmp .eql (.var 13) (.var 26)) (.ite (.cmp .eql (.var 14) (.var 27)) (.ite (.cmp .eql (.var 15) (.var 28)) (.ite (.cmp .eql (.var 16) (.var 29)) (.ite (.cmp .eql (.var 17) (.var 30)) (.ite (.cmp .eql (.var 18) (.var 31)) (.ite (.cmp .eql (.var 19) (.var 32)) (.ite (.cmp .eql (.var 20) (.var 33)) (.cmp .eql (.var 21) (.var 34)) (.bool false)) (.bool false)) (.bool false)) (.bool false)) (.bool false)) (.bool false)) (.bool false)) (.bool false)) (.bool false)) (.bool false)) (.bool false))) (.bool false))]))))))))))
def Ss_FnBenchTurned (cb : CodeB) : List Spec := [(tySpec [.str, .int .i64, .int .i64] (SP_DrawBenchTurned cb)), SP_iBenchTurned, SP_sBenchTurned, SP_iBenchMat, SP_iBenchPieces]
theorem dig_range : ∀ (u : Nat), ∀ b ∈ Lib.decDigits u, 48 ≤ b.toNat ∧ b.toNat ≤ 57 := by
  intro u
  induction u using Nat.strongRecOn with
  | ind u ih =>
    intro b hb
    have one : ∀ k : Nat, k < 10 → 48 ≤ (UInt8.ofNat (48 + k)).toNat ∧ (UInt8.ofNat (48 + k)).toNat ≤ 57 := fun k hk => by
      rw [UInt8.toNat_ofNat']
      omega
    rw [Lib.decDigits] at hb
    split at hb
    · rename_i h
      rw [List.mem_singleton.1 hb]
      exact one u h
    · rcases List.mem_append.1 hb with hb | hb
      · exact ih (u / 10) (by omega) b hb
      · rw [List.mem_singleton.1 hb]
        exact one _ (Nat.mod_lt _ (by omega))
theorem itoa_range (n : Int) : ∀ b ∈ Lib.itoa n, 45 ≤ b.toNat ∧ b.toNat ≤ 57 := by
  intro b hb
  unfold Lib.itoa at hb
  split at hb
  · rcases List.mem_cons.1 hb with rfl | hb
    · decide
    · have := dig_range _ b hb; omega
  · have := dig_range _ b hb; omega
theorem itoa_no {c : UInt8} (hc : c.toNat < 45 ∨ 57 < c.toNat) (n : Int) : c ∉ Lib.itoa n := fun h => by
  have := itoa_range n c h
  omega
theorem bench_head {p q : Int} (h : dirOk p q = true) : benchW (headV p q) = some [⟨114, [p, q], headV p q⟩] := by
  have hsm : -100 ≤ p ∧ p ≤ 100 ∧ -100 ≤ q ∧ q ≤ 100 := by
    simp only [dirOk, Bool.and_eq_true, inRg, decide_eq_true_eq] at h
    omega
  have hn : ∀ n : Int, -100 ≤ n → n ≤ 100 → num (Lib.itoa n) = some n := fun n h1 h2 => num_iff.2 ⟨by unfold I64; omega, rfl⟩
  have hno : (32 : UInt8) ∉ headV p q := by
    unfold headV
    simp only [List.mem_cons, List.mem_append, not_or]
    exact ⟨by decide, itoa_no (by decide) p, by decide, itoa_no (by decide) q⟩
  have hp : pieceW num (headV p q) = some (114, [p, q]) := by
    unfold headV
    simp only [pieceW]
    rw [cut_app, cut_one (itoa_no (by decide) p), cut_one (itoa_no (by decide) q)]
    have e : numsW num ([Lib.itoa p] ++ [Lib.itoa q]) = some [p, q] := by
      simp only [List.singleton_append, numsW, hn p (by omega) (by omega), hn q (by omega) (by omega)]
    rw [e]
    dsimp only
    rw [if_pos]
    show dirOk p q = true
    exact h
  unfold benchW
  rw [if_neg (by unfold headV; exact List.cons_ne_nil _ _), cut_one hno]
  simp only [pcsW, hp]
  rfl
theorem joinV_true {a b : List UInt8} (h : (joinV a b).2 = true) : ∃ x y, benchW a = some x ∧ benchW b = some y ∧ (x ++ y).length ≤ 12 ∧ joinV a b = (joinTwo a b, true) ∧ benchW (joinV a b).1 = some (x ++ y) := by
  unfold joinV at h ⊢
  cases ha : benchW a with
  | none => rw [ha] at h; cases h
  | some x =>
    cases hb : benchW b with
    | none => rw [ha, hb] at h; cases h
    | some y =>
      rw [ha, hb] at h
      dsimp only at h ⊢
      split at h
      · rename_i hl
        refine ⟨x, y, rfl, rfl, hl, by rw [if_pos hl], ?_⟩
        rw [if_pos hl, benchW_joined ha hb, if_pos hl]
      · cases h
theorem turned_true {s : List UInt8} {p q : Int} (h : (turnedV s p q).2 = true) : ∃ x, dirOk p q = true ∧ benchW s = some x ∧
    benchW (turnedV s p q).1 = some ([⟨114, [p, -q], headV p (-q)⟩] ++ x ++ [⟨114, [p, q], headV p q⟩]) := by
  have hd : dirOk p q = true := by
    cases hd : dirOk p q with
    | true => rfl
    | false => unfold turnedV at h; rw [hd, if_neg (by decide)] at h; cases h
  have hd' : dirOk p (-q) = true := by
    simp only [dirOk, inRg, Bool.and_eq_true, decide_eq_true_eq, Bool.not_eq_true', Bool.and_eq_false_iff, beq_eq_false_iff_ne] at hd ⊢
    omega
  unfold turnedV at h ⊢
  rw [if_pos hd] at h ⊢
  split at h
  · rename_i h1
    obtain ⟨a, x, ea, ex, _, _, e1⟩ := joinV_true h1
    obtain ⟨b, y, eb, ey, _, _, e2⟩ := joinV_true h
    rw [bench_head hd'] at ea
    rw [bench_head hd] at ey
    cases ea
    cases ey
    rw [e1] at eb
    cases eb
    rw [if_pos h1]
    exact ⟨x, hd, ex, e2⟩
  · cases h
theorem turnedV_len (s : List UInt8) {p q : Int} (hp : I64 p) (hq : I64 q) : (turnedV s p q).1.length ≤ s.length + 86 := by
  unfold turnedV
  split
  · rename_i hd
    have hnq : I64 (-q) := by
      simp only [dirOk, Bool.and_eq_true, inRg, decide_eq_true_eq] at hd
      unfold I64; omega
    split
    · have h1 := joinV_len (headV p (-q)) s
      have h2 := joinV_len (joinV (headV p (-q)) s).1 (headV p q)
      have h3 := head_len hp hq
      have h4 := head_len hp hnq
      omega
    · simp
  · simp
def matL (l : List Value) : RM := ofQ fun k => q3 l (3 * k)
def okL (l : List Value) : Prop := ∀ k, k < 4 → validQ (q3 l (3 * k)) = true
def pm (p : Pc) : RM := matL (pieceM p.k p.ns)
theorem mul_valL {h g : Nat → Int} (hT : mulT h g = true) : matL (ivs (mulN h g) 0 12) = (matL (ivs h 0 12)).mul (matL (ivs g 0 12)) ∧ okL (ivs (mulN h g) 0 12) := by
  obtain ⟨ok, d⟩ := nttT_ok (show nttT 4 _ _ = true from hT)
  have eA : ∀ k, k < 4 → q3 (ivs h 0 12 ++ ivs g 0 12) (3 * k) = q3 (ivs h 0 12) (3 * k) := get4 rfl rfl rfl rfl
  have eB : ∀ k, k < 4 → q3 (ivs h 0 12 ++ ivs g 0 12) (12 + 3 * k) = q3 (ivs g 0 12) (3 * k) := get4 rfl rfl rfl rfl
  have eC : ∀ k, k < 4 → q3 (ivs (mulN h g) 0 12) (3 * k) = tri (mulN h g) (3 * k) := get4 rfl rfl rfl rfl
  have hv : ∀ k, k < 4 → mulM (fun k => q3 (ivs h 0 12) (3 * k)) (fun k => q3 (ivs g 0 12) (3 * k)) k = some (q3 (ivs (mulN h g) 0 12) (3 * k)) := fun k hk => by
    obtain ⟨v, hv⟩ := d k hk
    rw [eC k hk, show tri (mulN h g) (3 * k) = v from ntt_tri hT hv, ← mulM_congr eA eB hk]
    exact hv
  exact ⟨ofQ_mul hv, fun k hk => (mul_val hv k hk).2.2⟩
def prodP : List Pc → RM
  | [] => RM.one
  | p :: r => (prodP r).mul (pm p)
theorem prodP_append : ∀ (a b : List Pc), prodP (a ++ b) = (prodP b).mul (prodP a)
  | [], b => (RM.mul_one _).symm
  | p :: r, b => by
    rw [List.cons_append, prodP, prodP, prodP_append r b, RM.assoc]
theorem stepM_val {p : Pc} {g : Nat → Int} {o : List Value} (h : stepM p (ivs g 0 12) = some o) : ∃ g', o = ivs g' 0 12 ∧ b0 (pieceM p.k p.ns) 12 = true ∧ matL (ivs g' 0 12) = (pm p).mul (matL (ivs g 0 12)) ∧ okL (ivs g' 0 12) := by
  obtain ⟨f, b, e⟩ := pieceM_lit p.k p.ns
  rw [stepM_lit e] at h
  split at h
  · rename_i hc
    rw [Bool.and_eq_true] at hc
    obtain ⟨rfl, hT⟩ := hc
    obtain ⟨v1, v2⟩ := mul_valL hT
    refine ⟨_, (Option.some.inj h).symm, by rw [e]; rfl, ?_, v2⟩
    rw [v1]
    unfold pm
    rw [e]
    rfl
  · cases h
theorem benchM_val : ∀ {l : List Pc} {g : Nat → Int} {o : List Value}, okL (ivs g 0 12) → benchM (some (ivs g 0 12)) l = some o →
    ∃ g', o = ivs g' 0 12 ∧ matL (ivs g' 0 12) = (prodP l).mul (matL (ivs g 0 12)) ∧ okL (ivs g' 0 12) ∧ ∀ p ∈ l, b0 (pieceM p.k p.ns) 12 = true
  | [], g, o, hg, h => ⟨g, (Option.some.inj h).symm, (RM.one_mul _).symm, hg, fun p hp => by cases hp⟩
  | p :: r, g, o, hg, h => by
    have h : benchM (stepM p (ivs g 0 12)) r = some o := h
    cases hs : stepM p (ivs g 0 12) with
    | none => rw [hs, benchM_none] at h; cases h
    | some a =>
      rw [hs] at h
      obtain ⟨g1, rfl, b1, m1, k1⟩ := stepM_val hs
      obtain ⟨g2, rfl, m2, k2, b2⟩ := benchM_val k1 h
      refine ⟨g2, rfl, ?_, k2, fun q hq => ?_⟩
      · rw [m2, m1, prodP, RM.assoc]
      · rcases List.mem_cons.1 hq with rfl | hq
        · exact b1
        · exact b2 q hq
theorem low_some {a c : Int} (ha : -20000 ≤ a ∧ a ≤ 20000) (hc : 1 ≤ c ∧ c ≤ 20000) : ∃ v, lowI a 0 c = some v := by
  have hd : ∀ x g : Int, (x.tdiv g).natAbs ≤ x.natAbs := fun x g => by rw [Int.natAbs_tdiv]; exact Nat.div_le_self _ _
  unfold lowI
  simp only
  have h1 := hd a (gcd3 a 0 c)
  have h2 := hd 0 (gcd3 a 0 c)
  have h3 := hd c (gcd3 a 0 c)
  rw [if_pos]
  · exact ⟨_, rfl⟩
  · simp only [inR, Bool.and_eq_true, decide_eq_true_eq]
    omega
theorem dir_val {p q : Int} (h : dirOk p q = true) : ∃ C S : Q, dirC p q = some C ∧ dirS p q = some S ∧ validQ C = true ∧ validQ S = true ∧ C.2.1 = 0 ∧ S.2.1 = 0 ∧
    reR C = ((p * p - q * q : Int) : Rat) / ((p * p + q * q : Int) : Rat) ∧ reR S = ((2 * p * q : Int) : Rat) / ((p * p + q * q : Int) : Rat) ∧ reR C * reR C + reR S * reR S = 1 := by
  obtain ⟨l1, l2, _, _, _, _, _, _, f1, f2, f3, f4, f5, f6⟩ := dir_facts h
  obtain ⟨C, hC⟩ := low_some (a := p * p - q * q) (c := p * p + q * q) (by omega) ⟨f1, f2⟩
  obtain ⟨S, hS⟩ := low_some (a := 2 * p * q) (c := p * p + q * q) ⟨f5, f6⟩ ⟨f1, f2⟩
  obtain ⟨c1, c2⟩ := low_val f1 hC
  obtain ⟨s1, s2⟩ := low_val f1 hS
  refine ⟨C, S, by unfold dirC; rw [if_pos h]; exact hC, by unfold dirS; rw [if_pos h]; exact hS, low_valid l1 hC, low_valid l2 hS, low_real hC, low_real hS, c1, s1, ?_⟩
  have hn : ((p * p + q * q : Int) : Rat) ≠ 0 := by
    have : p * p + q * q ≠ 0 := by omega
    exact_mod_cast this
  rw [c1, s1]
  simp only [Rat.intCast_mul, Rat.intCast_sub, Rat.intCast_add] at hn ⊢
  have h2 : ((2 : Int) : Rat) = 2 := rfl
  rw [h2]
  generalize (p : Rat) = x at *
  generalize (q : Rat) = y at *
  grind
def dcR (p q : Int) : Rat := reR ((dirC p q).getD zq)
def dsR (p q : Int) : Rat := reR ((dirS p q).getD zq)
theorem cs_one {p q : Int} (h : dirOk p q = true) : dcR p q * dcR p q + dsR p q * dsR p q = 1 := by
  obtain ⟨C, S, hC, hS, _, _, _, _, _, _, h1⟩ := dir_val h
  unfold dcR dsR
  rw [hC, hS]
  exact h1
theorem cs_back {p q : Int} (h : dirOk p q = true) : dirOk p (-q) = true ∧ dcR p (-q) = dcR p q ∧ dsR p (-q) = - dsR p q := by
  have h' : dirOk p (-q) = true := by
    simp only [dirOk, inRg, Bool.and_eq_true, decide_eq_true_eq, Bool.not_eq_true', Bool.and_eq_false_iff, beq_eq_false_iff_ne] at h ⊢
    omega
  obtain ⟨C, S, hC, hS, _, _, _, _, c1, s1, _⟩ := dir_val h
  obtain ⟨C', S', hC', hS', _, _, _, _, c1', s1', _⟩ := dir_val h'
  refine ⟨h', ?_, ?_⟩
  · unfold dcR
    rw [hC, hC', Option.getD_some, Option.getD_some, c1, c1', Int.neg_mul_neg]
  · unfold dsR
    rw [hS, hS', Option.getD_some, Option.getD_some, s1, s1', Int.neg_mul_neg, Int.mul_neg, Rat.intCast_neg]
    grind
theorem neg_valid {S : Q} (h : validQ S = true) : validQ (-S.1, S.2.1, S.2.2) = true := by
  obtain ⟨b1, b2, b3⟩ := valid_bounds h
  simp only [validQ, validI, Bool.and_eq_true, beq_iff_eq] at h ⊢
  refine ⟨?_, h.2.1, h.2.2.1, ?_⟩
  · simp only [inR, Bool.and_eq_true, decide_eq_true_eq]; omega
  · have := h.2.2.2
    unfold gcd3 at this ⊢
    rw [Int.natAbs_neg]
    exact this
theorem rot_val {p q : Int} (h : dirOk p q = true) : matL (ivs (rotH p q) 0 12) = rotM (dcR p q) (dsR p q) ∧ okL (ivs (rotH p q) 0 12) := by
  obtain ⟨C, S, hC, hS, vC, vS, iC, iS, _⟩ := dir_val h
  have e0 : q3 (ivs (rotH p q) 0 12) (3 * 0) = C := by
    show (rotH p q 0, rotH p q 1, rotH p q 2) = _
    unfold rotH
    rw [if_pos h, if_pos h, if_pos h, hC]; rfl
  have e1 : q3 (ivs (rotH p q) 0 12) (3 * 1) = (-S.1, S.2.1, S.2.2) := by
    show (rotH p q 3, rotH p q 4, rotH p q 5) = _
    unfold rotH
    rw [if_pos h, if_pos h, if_pos h, hS, iS]; rfl
  have e2 : q3 (ivs (rotH p q) 0 12) (3 * 2) = S := by
    show (rotH p q 6, rotH p q 7, rotH p q 8) = _
    unfold rotH
    rw [if_pos h, if_pos h, if_pos h, hS]; rfl
  have e3 : q3 (ivs (rotH p q) 0 12) (3 * 3) = C := by
    show (rotH p q 9, rotH p q 10, rotH p q 11) = _
    unfold rotH
    rw [if_pos h, if_pos h, if_pos h, hC]; rfl
  refine ⟨?_, get4 (by rw [e0]; exact vC) (by rw [e1]; exact neg_valid vS) (by rw [e2]; exact vS) (by rw [e3]; exact vC)⟩
  unfold matL ofQ
  simp only
  rw [e0, e1, e2, e3]
  have x1 : dcR p q = reR C := by unfold dcR; rw [hC]; rfl
  have x2 : dsR p q = reR S := by unfold dsR; rw [hS]; rfl
  have x3 : reR (-S.1, S.2.1, S.2.2) = - reR S := by unfold reR; rw [Rat.intCast_neg]; grind
  have x4 : imR (-S.1, S.2.1, S.2.2) = 0 := real_val iS
  rw [x1, x2, x3, x4, real_val iC, real_val iS]
  rfl
theorem oneG_val : matL (ivs oneG 0 12) = RM.one ∧ okL (ivs oneG 0 12) := by
  refine ⟨?_, get4 (by decide) (by decide) (by decide) (by decide)⟩
  show (⟨reR (1, 0, 1), reR (0, 0, 1), reR (0, 0, 1), reR (1, 0, 1), imR (1, 0, 1), imR (0, 0, 1), imR (0, 0, 1), imR (1, 0, 1)⟩ : RM) = _
  rw [show reR (0, 0, 1) = 0 by decide +kernel, show imR (0, 0, 1) = 0 by decide +kernel, show reR (1, 0, 1) = 1 by decide +kernel, show imR (1, 0, 1) = 0 by decide +kernel]
  rfl
theorem matV_true {s : List UInt8} (h : b0 (benchMV s) 12 = true) : ∃ ps g, benchW s = some ps ∧ benchM (some (ivs oneG 0 12)) ps = some (ivs g 0 12) ∧ benchMV s = ivs g 0 12 ++ [.bool true] ∧ matL (ivs g 0 12) = prodP ps ∧ okL (ivs g 0 12) ∧ ∀ p ∈ ps, b0 (pieceM p.k p.ns) 12 = true := by
  unfold benchMV at h ⊢
  cases hb : benchW s with
  | none => rw [hb] at h; cases h
  | some ps =>
    rw [hb] at h
    dsimp only at h ⊢
    cases hr : benchM (some (ivs oneG 0 12)) ps with
    | none => rw [hr] at h; cases h
    | some o =>
      obtain ⟨g, rfl, m, k, b⟩ := benchM_val oneG_val.2 hr
      rw [oneG_val.1, RM.mul_one] at m
      exact ⟨ps, g, rfl, hr, rfl, m, k, b⟩
theorem benchMV_lit (s : List UInt8) : ∃ (g : Nat → Int) (b : Bool), benchMV s = ivs g 0 12 ++ [.bool b] := by
  have key : ∀ (l : List Pc) (acc : Option (List Value)) (o : List Value), (∀ a, acc = some a → ∃ g : Nat → Int, a = ivs g 0 12) → benchM acc l = some o → ∃ g : Nat → Int, o = ivs g 0 12 := by
    intro l
    induction l with
    | nil => intro acc o h1 h2; exact h1 o h2
    | cons p r ih =>
      intro acc o h1 h2
      refine ih _ o ?_ h2
      intro a ha
      obtain ⟨c, hc, h3⟩ := Option.bind_eq_some_iff.1 ha
      obtain ⟨g, rfl⟩ := h1 c hc
      obtain ⟨h, b, e⟩ := pieceM_lit p.k p.ns
      rw [stepM_lit e] at h3
      split at h3
      · exact ⟨_, (Option.some.inj h3).symm⟩
      · cases h3
  unfold benchMV
  split
  · split
    · rename_i o ho
      obtain ⟨g, rfl⟩ := key _ _ _ (fun a ha => ⟨oneG, (Option.some.inj ha).symm⟩) ho
      exact ⟨g, true, rfl⟩
    · exact ⟨fun _ => 0, false, rfl⟩
  · exact ⟨fun _ => 0, false, rfl⟩
theorem ivs_same' {f g : Nat → Int} : ∀ (n k : Nat), (∀ i, k ≤ i → i < k + n → f i = g i) → ivs f k n = ivs g k n
  | 0, _, _ => rfl
  | n + 1, k, h => by
    rw [ivs, ivs, h k (Nat.le_refl _) (by omega), ivs_same' n (k + 1) fun i h1 h2 => h i (by omega) (by omega)]
theorem same_of_tri {f g : Nat → Int} {n : Nat} (h : ∀ k, k < n → tri f (3 * k) = tri g (3 * k)) : ivs f 0 (3 * n) = ivs g 0 (3 * n) :=
  ivs_same' _ _ fun i _ hi => by rw [← cmp_tri f i, ← cmp_tri g i, h (i / 3) (by omega)]
theorem mat_same {f g : Nat → Int} (hf : okL (ivs f 0 12)) (hg : okL (ivs g 0 12)) (h : matL (ivs f 0 12) = matL (ivs g 0 12)) : ivs f 0 12 = ivs g 0 12 := by
  have e := congrArg (fun m : RM => ((m.p0, m.p1, m.p2, m.p3), (m.q0, m.q1, m.q2, m.q3))) h
  simp only [matL, ofQ, Prod.mk.injEq] at e
  obtain ⟨⟨p0, p1, p2, p3⟩, q0, q1, q2, q3'⟩ := e
  refine same_of_tri (n := 4) (get4 ?_ ?_ ?_ ?_)
  · exact val_inj (hf 0 (by omega)) (hg 0 (by omega)) p0 q0
  · exact val_inj (hf 1 (by omega)) (hg 1 (by omega)) p1 q1
  · exact val_inj (hf 2 (by omega)) (hg 2 (by omega)) p2 q2
  · exact val_inj (hf 3 (by omega)) (hg 3 (by omega)) p3 q3'
theorem pm_head {p q : Int} {t : List UInt8} (h : dirOk p q = true) : pm ⟨114, [p, q], t⟩ = rotM (dcR p q) (dsR p q) := by
  rw [← (rot_val h).1]
  rfl
theorem turned_law {s : List UInt8} {p q : Int} (h : (turnedV s p q).2 = true) (h2 : (turnedV (turnedV s p q).1 p (-q)).2 = true)
    (hx : b0 (benchMV s) 12 = true) (hy : b0 (benchMV (turnedV (turnedV s p q).1 p (-q)).1) 12 = true) : benchMV (turnedV (turnedV s p q).1 p (-q)).1 = benchMV s := by
  obtain ⟨x, hd, ex, eo⟩ := turned_true h
  obtain ⟨y, hd', ey, eb⟩ := turned_true h2
  rw [eo] at ey
  cases ey
  rw [Int.neg_neg] at eb
  obtain ⟨ps, f, e1, _, e2, m1, k1, _⟩ := matV_true hx
  obtain ⟨qs, g, e3, _, e4, m2, k2, _⟩ := matV_true hy
  rw [ex] at e1
  cases e1
  rw [eb] at e3
  cases e3
  have hc := cs_one hd
  obtain ⟨_, c1, c2⟩ := cs_back hd
  have hm : matL (ivs g 0 12) = matL (ivs f 0 12) := by
    rw [m1, m2]
    simp only [prodP_append, prodP]
    rw [pm_head hd, pm_head hd', c1, c2, RM.one_mul, RM.one_mul]
    obtain ⟨r1, r2⟩ := rot_back hc
    have r3 : ∀ M : RM, (rotM (dcR p q) (-dsR p q)).mul ((rotM (dcR p q) (dsR p q)).mul M) = M := fun M => by rw [← RM.assoc, r2, RM.one_mul]
    simp only [RM.assoc, r3, r2, RM.mul_one, RM.one_mul]
  rw [e2, e4, mat_same k2 k1 hm]
theorem turned_pieces {s : List UInt8} {p q : Int} (h : (turnedV s p q).2 = true) : piecesV (turnedV s p q).1 = piecesV s + 2 ∧ 0 ≤ piecesV s ∧ piecesV s ≤ 12 := by
  obtain ⟨x, hd, ex, eo⟩ := turned_true h
  have h1 := (benchW_some ex).1
  unfold piecesV
  rw [ex, eo]
  simp only [List.length_append, List.length_singleton]
  omega
theorem ivs_inj {f g : Nat → Int} {n : Nat} (h : ivs f 0 n = ivs g 0 n) : ∀ i, i < n → f i = g i := by
  intro i hi
  have h1 := ivs_getElem? f n 0 i hi
  rw [h, ivs_getElem? g n 0 i hi] at h1
  have := Option.some.inj h1
  simp only [Nat.zero_add, Value.int.injEq, true_and] at this
  exact this.symm
theorem blit_b0 {s : List UInt8} {g : Nat → Int} {b : Bool} (e : benchMV s = ivs g 0 12 ++ [.bool b]) : b0 (benchMV s) 12 = b := by rw [e]; rfl
theorem sat_FnBenchTurned (P : Program) (cb : CodeB) (hk : CodeOk cb) (ins : List Value) (K : List Value → Prop) (_ : TypedL [.sl] ins) (hp : (lawF cb).pre ins) (hK : K [.bool true]) : sat P (Ss_FnBenchTurned cb) tr_FnBenchTurned ins [] K := by
  refine law_benchN (n := 2) (fun v0 s g hs hg => ?_) hp hK
  have hp := hg 0 (by omega)
  have hq := hg 1 (by omega)
  show sat P _ _ [v0, bv s, .int .i64 (g 0), .int .i64 (g 1)] [] K
  generalize g 0 = p at *
  generalize g 1 = q at *
  refine evs_step (call_step rfl ⟨s, p, q, rfl, hp, hq, by omega, evs_nil ?_⟩)
  refine evs_step (call_step rfl ⟨s, p, q, rfl, hp, hq, by omega, evs_nil ?_⟩)
  have hol := turnedV_len s hp hq
  cases ho : (turnedV s p q).2 with
  | false =>
    refine ite_t ?_ ?_
    · show (if toB (if toB (Value.bool (!(false == false))) = true then Value.bool true else Value.bool (!((strV (bv (turnedV s p q).1)).toList == (strV (bv (turnedV s p q).1)).toList))) = true then Value.bool true else Value.bool (!false)) = _
      rw [seq_self]; rfl
    · show K [if toB (Value.bool (false == false)) = true then Value.bool ((strV (bv (turnedV s p q).1)).toList == (strV (bv (turnedV s p q).1)).toList) else .bool false]
      rw [seq_self]
      exact hK
  | true =>
    obtain ⟨_, hd, _⟩ := turned_true ho
    obtain ⟨p1, p2, p3⟩ := turned_pieces ho
    have hq2 : -100 ≤ q ∧ q ≤ 100 := by
      simp only [dirOk, Bool.and_eq_true, inRg, decide_eq_true_eq] at hd
      omega
    have hw : IntKind.i64.wrap (0 - q) = -q := by rw [wrap_in (by omega)]; omega
    have hnq : I64 (-q) := by unfold I64; omega
    refine ite_f ?_ ?_
    · show (if toB (if toB (Value.bool (!(true == true))) = true then Value.bool true else Value.bool (!((strV (bv (turnedV s p q).1)).toList == (strV (bv (turnedV s p q).1)).toList))) = true then Value.bool true else Value.bool (!true)) = _
      rw [seq_self]; rfl
    have hbl := turnedV_len (turnedV s p q).1 hp hnq
    refine evs_step (call_step rfl ⟨(turnedV s p q).1, p, -q, ?_, hp, hnq, by omega, evs_nil ?_⟩)
    · show [bv (turnedV s p q).1, Value.int .i64 p, Value.int .i64 (IntKind.i64.wrap (0 - q))] = _
      rw [hw]
    obtain ⟨x, t, ex⟩ := benchMV_lit s
    obtain ⟨y, u, ey⟩ := benchMV_lit (turnedV (turnedV s p q).1 p (-q)).1
    refine evs_step (call_step rfl ⟨s, rfl, by omega, ?_⟩)
    rw [ex]
    refine evs_nil (evs_step (call_step rfl ⟨(turnedV (turnedV s p q).1 p (-q)).1, rfl, by omega, ?_⟩))
    rw [ey]
    refine evs_nil (evs_step (call_step rfl ⟨(turnedV s p q).1, rfl, by omega, call_step rfl ⟨s, rfl, by omega, evs_nil ?_⟩⟩))
    generalize hr : (turnedV (turnedV s p q).1 p (-q)).2 = r
    have key : (if toB (if toB (if toB (.bool (!r)) = true then Value.bool true else .bool (!t)) = true then Value.bool true else .bool (!u)) = true then Value.bool true else eqL x y 0 12) = .bool true := by
      cases r with
      | false => rfl
      | true =>
        cases t with
        | false => rfl
        | true =>
          cases u with
          | false => rfl
          | true =>
            have e := turned_law ho hr (blit_b0 ex) (blit_b0 ey)
            rw [ey, ex] at e
            exact eqL_true _ _ fun i _ hi => ivs_inj (List.append_inj' e rfl).1.symm i (by omega)
    show K [if toB (Value.bool (piecesV (turnedV s p q).1 == IntKind.i64.wrap (piecesV s + 2))) = true then (if toB (if toB (if toB (.bool (!r)) = true then Value.bool true else .bool (!t)) = true then Value.bool true else .bool (!u)) = true then Value.bool true else eqL x y 0 12) else .bool false]
    rw [key, p1, wrap_in (by omega)]
    simpa using hK

end Go.Sx

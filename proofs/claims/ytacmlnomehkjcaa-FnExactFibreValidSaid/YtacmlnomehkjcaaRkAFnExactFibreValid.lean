/- What the functions reckon, by their trees. -/
import Derived.Test.YtacmlnomehkjcaaEe
import Derived.KernelRfl
namespace Go.Sx
open Go
set_option maxRecDepth 100000
set_option linter.unusedSimpArgs false
set_option linter.unusedVariables false

def tr_size : Tr :=
  (.ret [(.mx false .i64 (.var 0) (.ar .sub .i64 (.int .i64 0) (.var 0)))])
def Fs_size : List Fun1 := []
def F_size : Fun1 := ofTree Fs_size tr_size

def tr_within : Tr :=
  (.ret [(.ite (.cmp .geq (.var 0) (.var 1)) (.cmp .leq (.var 0) (.var 2)) (.bool false))])
def Fs_within : List Fun1 := []
def F_within : Fun1 := ofTree Fs_within tr_within
def G_within : Fun1 := ⟨fun _ => True, fun ins => [.bool (inRg (i0 ins 0) (i0 ins 1) (i0 ins 2))]⟩
theorem as_within (ins : List Value) (ht : TypedL [.int .i64, .int .i64, .int .i64] ins) (_ : G_within.pre ins) : F_within.pre ins ∧ F_within.out ins = G_within.out ins := by
  obtain ⟨a, b, c, rfl, _, _, _⟩ := ints3 ht
  refine ⟨trivial, ?_⟩
  show [if (decide (a ≥ b)) = true then Value.bool (decide (a ≤ c)) else Value.bool false] = [Value.bool (decide (b ≤ a) && decide (a ≤ c))]
  by_cases h : b ≤ a <;> simp [h]

def tr_l6In : Tr :=
  (.ret [(.ite (.cmp .geq (.var 0) (.var 1)) (.cmp .leq (.var 0) (.var 2)) (.bool false))])
def Fs_l6In : List Fun1 := []
def F_l6In : Fun1 := ofTree Fs_l6In tr_l6In
def G_l6In : Fun1 := ⟨fun _ => True, fun ins => [.bool (inRg (i0 ins 0) (i0 ins 1) (i0 ins 2))]⟩
theorem as_l6In (ins : List Value) (ht : TypedL [.int .i64, .int .i64, .int .i64] ins) (_ : G_l6In.pre ins) : F_l6In.pre ins ∧ F_l6In.out ins = G_l6In.out ins := by
  obtain ⟨a, b, c, rfl, _, _, _⟩ := ints3 ht
  refine ⟨trivial, ?_⟩
  show [if (decide (a ≥ b)) = true then Value.bool (decide (a ≤ c)) else Value.bool false] = [Value.bool (decide (b ≤ a) && decide (a ≤ c))]
  by_cases h : b ≤ a <;> simp [h]

def tr_l2In : Tr :=
  (.evs [.call 0 [(.var 0), (.int .i64 (-2000000000)), (.int .i64 2000000000)] none 1]
  (.ret [(.var 1)]))
def Fs_l2In : List Fun1 := [G_l6In]
def F_l2In : Fun1 := ofTree Fs_l2In tr_l2In
def G_l2In : Fun1 := ⟨fun _ => True, fun ins => [.bool (inR (i0 ins 0))]⟩
theorem as_l2In (ins : List Value) (ht : TypedL [.int .i64] ins) (_ : G_l2In.pre ins) : F_l2In.pre ins ∧ F_l2In.out ins = G_l2In.out ins := by
  obtain ⟨a, rfl, _⟩ := ints1 ht
  exact ⟨⟨⟨trivial, trivial⟩, trivial⟩, rfl⟩

def tr_divisor : Tr :=
  (.lp 0 [(.var 0), (.var 1)] [.int .i64, .int .i64]
  (.ite (.cmp .neq (.var 3) (.int .i64 0))
   (.evs [.need [(.cmp .neq (.var 3) (.int .i64 0))]]
    (.next 0 [(.var 3), (.ar .rem .i64 (.var 2) (.var 3))]))
   (.ret [(.var 2)])))
def Fs_divisor : List Fun1 := []
def F_divisor : Fun1 := ⟨fun _ => True, fun ins => [.int .i64 (euc (i0 ins 0) (i0 ins 1))]⟩
theorem sat_divisor (P : Program) (ins : List Value) (K : List Value → Prop) (ht : TypedL [.int .i64, .int .i64] ins) (_ : F_divisor.pre ins) (hK : K (F_divisor.out ins)) : sat P (specsOf Fs_divisor) tr_divisor ins [] K := by
  obtain ⟨a, b, rfl, wa, wb⟩ := ints2 ht
  refine ⟨fun vs => ∃ x y, vs = [.int .i64 x, .int .i64 y] ∧ euc x y = euc a b, fun vs => (toI (vs.getD 1 undef)).natAbs, ⟨a, b, rfl, rfl⟩, ?_⟩
  rintro vs hty ⟨x, y, rfl, he⟩
  refine ⟨fun hc => ?_, fun hc => ?_⟩
  · have hy : y ≠ 0 := by simpa [ev, cmpI] using hc
    refine ⟨fun e he' => by rw [List.mem_singleton.1 he']; exact hc, ⟨_, _, rfl, ?_⟩, ?_⟩
    · rw [← he, euc_step hy]; rfl
    · show (x.tmod y).natAbs < y.natAbs
      rw [Int.natAbs_tmod]
      exact Nat.mod_lt _ (by omega)
  · have hy : y = 0 := by simpa [ev, cmpI] using hc
    subst hy
    rw [euc_zero] at he
    show K [.int .i64 x]
    rw [he]
    exact hK

def tr_l2Gcd : Tr :=
  (.lp 0 [(.var 0), (.var 1)] [.int .i64, .int .i64]
  (.ite (.cmp .neq (.var 3) (.int .i64 0))
   (.evs [.need [(.cmp .neq (.var 3) (.int .i64 0))]]
    (.next 0 [(.var 3), (.ar .rem .i64 (.var 2) (.var 3))]))
   (.ret [(.mx false .i64 (.var 2) (.ar .sub .i64 (.int .i64 0) (.var 2)))])))
def Fs_l2Gcd : List Fun1 := []
def F_l2Gcd : Fun1 := ⟨fun _ => True, fun ins => [.int .i64 (mxI false (euc (i0 ins 0) (i0 ins 1)) (IntKind.i64.wrap (0 - euc (i0 ins 0) (i0 ins 1))))]⟩
theorem sat_l2Gcd (P : Program) (ins : List Value) (K : List Value → Prop) (ht : TypedL [.int .i64, .int .i64] ins) (_ : F_l2Gcd.pre ins) (hK : K (F_l2Gcd.out ins)) : sat P (specsOf Fs_l2Gcd) tr_l2Gcd ins [] K := by
  obtain ⟨a, b, rfl, wa, wb⟩ := ints2 ht
  refine ⟨fun vs => ∃ x y, vs = [.int .i64 x, .int .i64 y] ∧ euc x y = euc a b, fun vs => (toI (vs.getD 1 undef)).natAbs, ⟨a, b, rfl, rfl⟩, ?_⟩
  rintro vs hty ⟨x, y, rfl, he⟩
  refine ⟨fun hc => ?_, fun hc => ?_⟩
  · have hy : y ≠ 0 := by simpa [ev, cmpI] using hc
    refine ⟨fun e he' => by rw [List.mem_singleton.1 he']; exact hc, ⟨_, _, rfl, ?_⟩, ?_⟩
    · rw [← he, euc_step hy]; rfl
    · show (x.tmod y).natAbs < y.natAbs
      rw [Int.natAbs_tmod]
      exact Nat.mod_lt _ (by omega)
  · have hy : y = 0 := by simpa [ev, cmpI] using hc
    subst hy
    rw [euc_zero] at he
    show K [.int .i64 (mxI false x (IntKind.i64.wrap (0 - x)))]
    rw [he]
    exact hK

def tr_lowest : Tr :=
  (.evs [.call 0 [(.var 0)] none 1,
    .call 0 [(.var 1)] none 1,
    .call 1 [(.var 3), (.var 4)] none 1,
    .call 1 [(.var 5), (.var 2)] none 1]
  (.evs [.need [(.cmp .neq (.var 6) (.int .i64 0)), (.cmp .neq (.var 6) (.int .i64 0)), (.cmp .neq (.var 6) (.int .i64 0))]]
  (.evs [.call 2 [(.ar .quo .i64 (.var 0) (.var 6)), (.int .i64 (-2000000000)), (.int .i64 2000000000)] none 1,
    .call 2 [(.ar .quo .i64 (.var 1) (.var 6)), (.int .i64 (-2000000000)), (.int .i64 2000000000)] (some (.not (.not (.var 7)))) 1]
  (.ite (.ite (.ite (.not (.var 7)) (.bool true) (.not (.var 8))) (.bool true) (.cmp .gtr (.ar .quo .i64 (.var 2) (.var 6)) (.int .i64 2000000000)))
  (.ret [(.int .i64 0), (.int .i64 0), (.int .i64 0), (.bool false)])
  (.ret [(.ar .quo .i64 (.var 0) (.var 6)), (.ar .quo .i64 (.var 1) (.var 6)), (.ar .quo .i64 (.var 2) (.var 6)), (.bool true)])))))
def Fs_lowest : List Fun1 := [F_size, F_divisor, G_within]
def F_lowest : Fun1 := ofTree Fs_lowest tr_lowest
def G_lowest : Fun1 := ⟨fun ins => lowOk (i0 ins 0) (i0 ins 1) (i0 ins 2), fun ins => fr4 (lowI (i0 ins 0) (i0 ins 1) (i0 ins 2))⟩
theorem as_lowest (ins : List Value) (ht : TypedL [.int .i64, .int .i64, .int .i64] ins) (hp : G_lowest.pre ins) : F_lowest.pre ins ∧ F_lowest.out ins = G_lowest.out ins := by
  obtain ⟨a, b, c, rfl, wa, wb, wc⟩ := ints3 ht
  obtain ⟨p1, p2, p3, p4, p5, p6⟩ : lowOk a b c := hp
  have e1 := size_abs ⟨p1, p2⟩
  have e2 := size_abs ⟨p3, p4⟩
  have e3 : euc (a.natAbs : Nat) (b.natAbs : Nat) = (Nat.gcd a.natAbs b.natAbs : Nat) := euc_nat _ _
  have e4 : euc (Nat.gcd a.natAbs b.natAbs : Nat) c = (gcd3 a b c : Nat) := by rw [euc_eq (by omega) (by omega)]; rfl
  have hg : gcd3 a b c ≠ 0 := by have := gcd3_pos (a := a) (b := b) p5; omega
  have hgi : ((gcd3 a b c : Nat) : Int) ≠ 0 := by omega
  have q1 := quo_ok (g := gcd3 a b c) ⟨p1, p2⟩
  have q2 := quo_ok (g := gcd3 a b c) ⟨p3, p4⟩
  have q3 := quo_ok (a := c) (g := gcd3 a b c) ⟨by omega, p6⟩
  simp only [F_lowest, G_lowest, tr_lowest, Fs_lowest, F_size, tr_size, Fs_size, F_divisor, G_within, lowI, arI, ofTree, okT, okE, evalT, evalE, evsIn, ev, callF, preF, hasF, needs, i0, b0, toI_int, toB_bool, List.getD_cons_zero, List.getD_cons_succ, List.cons_append, List.nil_append, List.replicate, if_true, if_false, Bool.false_eq_true, and_true, true_and, implies_true, forall_const, false_implies, cmpI, Bool.not_true, Bool.not_false, Bool.true_and, Bool.false_and, Bool.and_true, Bool.and_false, reduceIte, List.append_nil, reduceCtorEq, e1, e2, e3, e4, q1, q2, q3]
  have r1 : ∀ z, inRg z (-2000000000) 2000000000 = inR z := fun _ => rfl
  simp only [r1]
  cases h1 : inR (a.tdiv (gcd3 a b c)) <;> cases h2 : inR (b.tdiv (gcd3 a b c)) <;> by_cases h3 : c.tdiv (gcd3 a b c) ≤ 2000000000 <;> simp [h1, h2, h3, hgi, hg, fr4, zq] <;> omega

def tr_sFracValid : Tr :=
  (.evs [.call 0 [(.var 0)] none 1,
    .call 0 [(.var 1)] (some (.var 3)) 1,
    .call 1 [(.var 2), (.int .i64 1), (.int .i64 2000000000)] (some (.ite (.var 3) (.var 4) (.bool false))) 1,
    .call 2 [(.var 2), (.var 0)] (some (.ite (.ite (.var 3) (.var 4) (.bool false)) (.var 5) (.bool false))) 1,
    .call 2 [(.var 6), (.var 1)] (some (.ite (.ite (.var 3) (.var 4) (.bool false)) (.var 5) (.bool false))) 1]
  (.ret [(.ite (.ite (.ite (.var 3) (.var 4) (.bool false)) (.var 5) (.bool false)) (.cmp .eql (.var 7) (.int .i64 1)) (.bool false))]))
def Fs_sFracValid : List Fun1 := [G_l2In, G_l6In, F_l2Gcd]
def F_sFracValid : Fun1 := ofTree Fs_sFracValid tr_sFracValid
def G_sFracValid : Fun1 := ⟨fun _ => True, fun ins => [.bool (validI (i0 ins 0) (i0 ins 1) (i0 ins 2))]⟩
theorem as_sFracValid (ins : List Value) (ht : TypedL [.int .i64, .int .i64, .int .i64] ins) (_ : G_sFracValid.pre ins) : F_sFracValid.pre ins ∧ F_sFracValid.out ins = G_sFracValid.out ins := by
  obtain ⟨a, b, c, rfl, wa, wb, wc⟩ := ints3 ht
  have key : inR a = true → inR b = true → inRg c 1 2000000000 = true → mxI false (euc c a) (IntKind.i64.wrap (0 - euc c a)) = (Nat.gcd c.natAbs a.natAbs : Nat) ∧
      mxI false (euc (Nat.gcd c.natAbs a.natAbs : Nat) b) (IntKind.i64.wrap (0 - euc (Nat.gcd c.natAbs a.natAbs : Nat) b)) = (gcd3 a b c : Nat) := by
    intro ha hb hc
    simp only [inR, inRg, Bool.and_eq_true, decide_eq_true_eq] at ha hb hc
    have h0 : Nat.gcd c.natAbs a.natAbs ≤ c.natAbs := Nat.gcd_le_left _ (by omega)
    have hp : 0 < Nat.gcd c.natAbs a.natAbs := Nat.gcd_pos_of_pos_left _ (by omega)
    refine ⟨gcd_small (by omega), ?_⟩
    have h2 : Nat.gcd ((Nat.gcd c.natAbs a.natAbs : Nat) : Int).natAbs b.natAbs ≤ Nat.gcd c.natAbs a.natAbs := Nat.gcd_le_left _ hp
    rw [gcd_small (by omega), Int.natAbs_natCast, gcd3_alt]
  simp only [F_sFracValid, G_sFracValid, tr_sFracValid, Fs_sFracValid, G_l2In, G_l6In, F_l2Gcd, validI, ofTree, okT, okE, evalT, evalE, evsIn, ev, callF, preF, hasF, needs, i0, b0, toI_int, toB_bool, List.getD_cons_zero, List.getD_cons_succ, List.cons_append, List.nil_append, List.replicate, if_true, if_false, Bool.false_eq_true, and_true, true_and, implies_true, forall_const, false_implies, cmpI, Bool.not_true, Bool.not_false, Bool.true_and, Bool.false_and, Bool.and_true, Bool.and_false, reduceIte, List.append_nil, reduceCtorEq]
  cases ha : inR a
  · simp [ha]
  · cases hb : inR b
    · simp [ha, hb]
    · cases hc : inRg c 1 2000000000
      · simp [ha, hb, hc]
      · obtain ⟨k1, k2⟩ := key ha hb hc
        simp only [ha, hb, hc, k1, k2, ofTree, okT, okE, evalT, evalE, evsIn, ev, callF, preF, hasF, needs, i0, b0, toI_int, toB_bool, List.getD_cons_zero, List.getD_cons_succ, List.cons_append, List.nil_append, List.replicate, if_true, if_false, Bool.false_eq_true, and_true, true_and, implies_true, forall_const, false_implies, cmpI, Bool.not_true, Bool.not_false, Bool.true_and, Bool.false_and, Bool.and_true, Bool.and_false, reduceIte, List.append_nil, reduceCtorEq]
        simp
        by_cases h1 : gcd3 a b c = 1
        · simp [h1]
        · rw [beq_eq_false_iff_ne.2 h1, beq_eq_false_iff_ne]
          omega

def tr_l2Low : Tr :=
  (.evs [.call 0 [(.var 2), (.var 0)] none 1,
    .call 0 [(.var 3), (.var 1)] none 1]
  (.evs [.need [(.cmp .neq (.var 4) (.int .i64 0)), (.cmp .neq (.var 4) (.int .i64 0)), (.cmp .neq (.var 4) (.int .i64 0))]]
  (.evs [.call 1 [(.ar .quo .i64 (.var 0) (.var 4)), (.ar .quo .i64 (.var 1) (.var 4)), (.ar .quo .i64 (.var 2) (.var 4))] none 1]
  (.ite (.not (.var 5))
  (.ret [(.int .i64 0), (.int .i64 0), (.int .i64 0), (.bool false)])
  (.ret [(.ar .quo .i64 (.var 0) (.var 4)), (.ar .quo .i64 (.var 1) (.var 4)), (.ar .quo .i64 (.var 2) (.var 4)), (.bool true)])))))
def Fs_l2Low : List Fun1 := [F_l2Gcd, G_sFracValid]
def F_l2Low : Fun1 := ofTree Fs_l2Low tr_l2Low
def G_l2Low : Fun1 := ⟨fun ins => lowOk (i0 ins 0) (i0 ins 1) (i0 ins 2), fun ins => fr4 (lowI (i0 ins 0) (i0 ins 1) (i0 ins 2))⟩
theorem as_l2Low (ins : List Value) (ht : TypedL [.int .i64, .int .i64, .int .i64] ins) (hp : G_l2Low.pre ins) : F_l2Low.pre ins ∧ F_l2Low.out ins = G_l2Low.out ins := by
  obtain ⟨a, b, c, rfl, wa, wb, wc⟩ := ints3 ht
  obtain ⟨p1, p2, p3, p4, p5, p6⟩ : lowOk a b c := hp
  have hc0 : 0 < c.natAbs := by omega
  have g1 : Nat.gcd c.natAbs a.natAbs ≤ c.natAbs := Nat.gcd_le_left _ hc0
  have gp : 0 < Nat.gcd c.natAbs a.natAbs := Nat.gcd_pos_of_pos_left _ hc0
  have e1 : mxI false (euc c a) (IntKind.i64.wrap (0 - euc c a)) = (Nat.gcd c.natAbs a.natAbs : Nat) := gcd_small (by omega)
  have g2 : Nat.gcd ((Nat.gcd c.natAbs a.natAbs : Nat) : Int).natAbs b.natAbs ≤ Nat.gcd c.natAbs a.natAbs := Nat.gcd_le_left _ gp
  have e2 : mxI false (euc (Nat.gcd c.natAbs a.natAbs : Nat) b) (IntKind.i64.wrap (0 - euc (Nat.gcd c.natAbs a.natAbs : Nat) b)) = (gcd3 a b c : Nat) := by
    rw [gcd_small (by omega), Int.natAbs_natCast, gcd3_alt]
  have hg : gcd3 a b c ≠ 0 := by have := gcd3_pos (a := a) (b := b) p5; omega
  have hgi : ((gcd3 a b c : Nat) : Int) ≠ 0 := by omega
  have q1 := quo_ok (g := gcd3 a b c) ⟨p1, p2⟩
  have q2 := quo_ok (g := gcd3 a b c) ⟨p3, p4⟩
  have q3 := quo_ok (a := c) (g := gcd3 a b c) ⟨by omega, p6⟩
  simp only [F_l2Low, G_l2Low, tr_l2Low, Fs_l2Low, F_l2Gcd, G_sFracValid, lowI, arI, ofTree, okT, okE, evalT, evalE, evsIn, ev, callF, preF, hasF, needs, i0, b0, toI_int, toB_bool, List.getD_cons_zero, List.getD_cons_succ, List.cons_append, List.nil_append, List.replicate, if_true, if_false, Bool.false_eq_true, and_true, true_and, implies_true, forall_const, false_implies, cmpI, Bool.not_true, Bool.not_false, Bool.true_and, Bool.false_and, Bool.and_true, Bool.and_false, reduceIte, List.append_nil, reduceCtorEq, e1, e2, q1, q2, q3, valid_low p5]
  cases h1 : inR (a.tdiv (gcd3 a b c)) <;> cases h2 : inR (b.tdiv (gcd3 a b c)) <;> by_cases h3 : c.tdiv (gcd3 a b c) ≤ 2000000000 <;> simp [h1, h2, h3, hgi, hg, fr4, zq] <;> omega

def tr_sFracMake : Tr :=
  (.evs [.call 0 [(.var 2), (.int .i64 1), (.int .i64 1000000000000000000)] none 1,
    .call 0 [(.var 0), (.int .i64 (-1000000000000000000)), (.int .i64 1000000000000000000)] (some (.not (.not (.var 3)))) 1,
    .call 0 [(.var 1), (.int .i64 (-1000000000000000000)), (.int .i64 1000000000000000000)] (some (.not (.ite (.not (.var 3)) (.bool true) (.not (.var 4))))) 1]
  (.ite (.ite (.ite (.not (.var 3)) (.bool true) (.not (.var 4))) (.bool true) (.not (.var 5)))
  (.ret [(.int .i64 0), (.int .i64 0), (.int .i64 0), (.bool false)])
  (.evs [.call 1 [(.var 0), (.var 1), (.var 2)] none 4]
   (.ret [(.var 6), (.var 7), (.var 8), (.var 9)]))))
def Fs_sFracMake : List Fun1 := [G_l6In, G_l2Low]
def F_sFracMake : Fun1 := ofTree Fs_sFracMake tr_sFracMake
def G_sFracMake : Fun1 := ⟨fun _ => True, fun ins => fr4 (makeI (i0 ins 0) (i0 ins 1) (i0 ins 2))⟩
theorem as_sFracMake (ins : List Value) (ht : TypedL [.int .i64, .int .i64, .int .i64] ins) (hp : G_sFracMake.pre ins) : F_sFracMake.pre ins ∧ F_sFracMake.out ins = G_sFracMake.out ins := by
  obtain ⟨a, b, c, rfl, wa, wb, wc⟩ := ints3 ht
  have hlow : inRg c 1 most = true → inRg a (-most) most = true → inRg b (-most) most = true → lowOk a b c := by
    intro h1 h2 h3
    simp only [inRg, Bool.and_eq_true, decide_eq_true_eq] at h1 h2 h3
    unfold most at h1 h2 h3
    unfold lowOk
    omega
  obtain ⟨x, y, z, t, hx⟩ := fr4_split (lowI a b c)
  simp only [F_sFracMake, G_sFracMake, tr_sFracMake, Fs_sFracMake, G_l6In, G_l2Low, makeI, ofTree, okT, okE, evalT, evalE, evsIn, ev, callF, preF, hasF, needs, i0, b0, toI_int, toB_bool, List.getD_cons_zero, List.getD_cons_succ, List.cons_append, List.nil_append, List.replicate, if_true, if_false, Bool.false_eq_true, and_true, true_and, implies_true, forall_const, false_implies, cmpI, Bool.not_true, Bool.not_false, Bool.true_and, Bool.false_and, Bool.and_true, Bool.and_false, reduceIte, List.append_nil, reduceCtorEq]
  have r1 : inRg c 1 1000000000000000000 = inRg c 1 most := rfl
  have r2 : ∀ z, inRg z (-1000000000000000000) 1000000000000000000 = inRg z (-most) most := fun _ => rfl
  simp only [r1, r2]
  cases h1 : inRg c 1 most
  · simp [h1, fr4, zq]
  · cases h2 : inRg a (-most) most
    · simp [h1, h2, fr4, zq]
    · cases h3 : inRg b (-most) most
      · simp [h1, h2, h3, fr4, zq]
      · simp [h1, h2, h3, hx, hlow h1 h2 h3]

def tr_direction : Tr :=
  (.evs [.call 0 [(.var 0), (.int .i64 (-100)), (.int .i64 100)] none 1,
    .call 0 [(.var 1), (.int .i64 (-100)), (.int .i64 100)] (some (.not (.not (.var 2)))) 1]
  (.ite (.ite (.ite (.not (.var 2)) (.bool true) (.not (.var 3))) (.bool true) (.ite (.cmp .eql (.var 0) (.int .i64 0)) (.cmp .eql (.var 1) (.int .i64 0)) (.bool false)))
  (.ret [(.int .i64 0), (.int .i64 0), (.int .i64 0), (.int .i64 0), (.int .i64 0), (.int .i64 0), (.bool false)])
  (.evs [.call 1 [(.ar .sub .i64 (.ar .mul .i64 (.var 0) (.var 0)) (.ar .mul .i64 (.var 1) (.var 1))), (.int .i64 0), (.ar .add .i64 (.ar .mul .i64 (.var 0) (.var 0)) (.ar .mul .i64 (.var 1) (.var 1)))] none 4]
   (.evs [.call 1 [(.ar .mul .i64 (.ar .mul .i64 (.int .i64 2) (.var 0)) (.var 1)), (.int .i64 0), (.ar .add .i64 (.ar .mul .i64 (.var 0) (.var 0)) (.ar .mul .i64 (.var 1) (.var 1)))] none 4]
   (.ret [(.var 4), (.var 5), (.var 6), (.var 8), (.var 9), (.var 10), (.bool true)])))))
def Fs_direction : List Fun1 := [G_within, G_lowest]
def F_direction : Fun1 := ofTree Fs_direction tr_direction
def G_direction : Fun1 := ⟨fun _ => True, fun ins => dirV (i0 ins 0) (i0 ins 1)⟩
theorem as_direction (ins : List Value) (ht : TypedL [.int .i64, .int .i64] ins) (hp : G_direction.pre ins) : F_direction.pre ins ∧ F_direction.out ins = G_direction.out ins := by
  obtain ⟨p, q, rfl, wp, wq⟩ := ints2 ht
  obtain ⟨x1, y1, z1, t1, hx1, hx1'⟩ := fr4_fr3 (lowI (p * p - q * q) 0 (p * p + q * q))
  obtain ⟨x2, y2, z2, t2, hx2, hx2'⟩ := fr4_fr3 (lowI (2 * p * q) 0 (p * p + q * q))
  simp only [F_direction, G_direction, tr_direction, Fs_direction, G_within, G_lowest, arI, ofTree, okT, okE, evalT, evalE, evsIn, ev, callF, preF, hasF, needs, i0, b0, toI_int, toB_bool, List.getD_cons_zero, List.getD_cons_succ, List.cons_append, List.nil_append, List.replicate, if_true, if_false, Bool.false_eq_true, and_true, true_and, implies_true, forall_const, false_implies, cmpI, Bool.not_true, Bool.not_false, Bool.true_and, Bool.false_and, Bool.and_true, Bool.and_false, reduceIte, List.append_nil, reduceCtorEq]
  cases h1 : inRg p (-100) 100
  · simp [h1, dirV, dirOk, dirC, dirS, fr3, zq]
  · cases h2 : inRg q (-100) 100
    · simp [h1, h2, dirV, dirOk, dirC, dirS, fr3, zq]
    · by_cases h3 : (p == 0 && q == 0) = true
      · have e3 := h3
        simp only [Bool.and_eq_true, beq_iff_eq] at e3
        obtain ⟨rfl, rfl⟩ := e3
        simp [h1, dirV, dirOk, dirC, dirS, fr3, zq]
      · have hd : dirOk p q = true := by
          simp only [dirOk, h1, h2, Bool.true_and]
          cases hb : (p == 0 && q == 0) with
          | true => exact absurd hb h3
          | false => rfl
        obtain ⟨l1, l2, w1, w2, w3, w4, w5, w6, _⟩ := dir_facts hd
        have h3' : (p == 0 && q == 0) = false := by simpa using h3
        have h4 : ¬(p = 0 ∧ q = 0) := by rintro ⟨rfl, rfl⟩; exact h3 rfl
        simp only [dirV, dirC, dirS, hd, if_true, hx1', hx2', w1, w2, w3, w4, w5, w6, hx1, hx2, h1, h2, ofTree, okT, okE, evalT, evalE, evsIn, ev, callF, preF, hasF, needs, i0, b0, toI_int, toB_bool, List.getD_cons_zero, List.getD_cons_succ, List.cons_append, List.nil_append, List.replicate, if_true, if_false, Bool.false_eq_true, and_true, true_and, implies_true, forall_const, false_implies, cmpI, Bool.not_true, Bool.not_false, Bool.true_and, Bool.false_and, Bool.and_true, Bool.and_false, reduceIte, List.append_nil, reduceCtorEq]
        clear hd w1 w2 w3 w4 w5 w6 hx1 hx2 hx1' hx2' h1 h2 ht hp
        generalize p * p - q * q = A at *
        generalize 2 * p * q = B at *
        generalize p * p + q * q = C at *
        by_cases h5 : p = 0
        · by_cases h6 : q = 0
          · exact absurd ⟨h5, h6⟩ h4
          · simp [h5, h6, l1, l2]
        · simp [h5, l1, l2]

def tr_l5Direction : Tr :=
  (.evs [.call 0 [(.var 0), (.int .i64 (-100)), (.int .i64 100)] none 1,
    .call 0 [(.var 1), (.int .i64 (-100)), (.int .i64 100)] (some (.not (.not (.var 2)))) 1]
  (.ite (.ite (.ite (.not (.var 2)) (.bool true) (.not (.var 3))) (.bool true) (.ite (.cmp .eql (.var 0) (.int .i64 0)) (.cmp .eql (.var 1) (.int .i64 0)) (.bool false)))
  (.ret [(.int .i64 0), (.int .i64 0), (.int .i64 0), (.int .i64 0), (.int .i64 0), (.int .i64 0), (.bool false)])
  (.evs [.call 1 [(.ar .sub .i64 (.ar .mul .i64 (.var 0) (.var 0)) (.ar .mul .i64 (.var 1) (.var 1))), (.int .i64 0), (.ar .add .i64 (.ar .mul .i64 (.var 0) (.var 0)) (.ar .mul .i64 (.var 1) (.var 1)))] none 4]
   (.evs [.call 1 [(.ar .mul .i64 (.ar .mul .i64 (.int .i64 2) (.var 0)) (.var 1)), (.int .i64 0), (.ar .add .i64 (.ar .mul .i64 (.var 0) (.var 0)) (.ar .mul .i64 (.var 1) (.var 1)))] none 4]
   (.ret [(.var 4), (.var 5), (.var 6), (.var 8), (.var 9), (.var 10), (.bool true)])))))
def Fs_l5Direction : List Fun1 := [G_l6In, G_sFracMake]
def F_l5Direction : Fun1 := ofTree Fs_l5Direction tr_l5Direction
def G_l5Direction : Fun1 := ⟨fun _ => True, fun ins => dirV (i0 ins 0) (i0 ins 1)⟩
theorem as_l5Direction (ins : List Value) (ht : TypedL [.int .i64, .int .i64] ins) (hp : G_l5Direction.pre ins) : F_l5Direction.pre ins ∧ F_l5Direction.out ins = G_l5Direction.out ins := by
  obtain ⟨p, q, rfl, wp, wq⟩ := ints2 ht
  obtain ⟨x1, y1, z1, t1, hx1, hx1'⟩ := fr4_fr3 (lowI (p * p - q * q) 0 (p * p + q * q))
  obtain ⟨x2, y2, z2, t2, hx2, hx2'⟩ := fr4_fr3 (lowI (2 * p * q) 0 (p * p + q * q))
  simp only [F_l5Direction, G_l5Direction, tr_l5Direction, Fs_l5Direction, G_l6In, G_sFracMake, arI, ofTree, okT, okE, evalT, evalE, evsIn, ev, callF, preF, hasF, needs, i0, b0, toI_int, toB_bool, List.getD_cons_zero, List.getD_cons_succ, List.cons_append, List.nil_append, List.replicate, if_true, if_false, Bool.false_eq_true, and_true, true_and, implies_true, forall_const, false_implies, cmpI, Bool.not_true, Bool.not_false, Bool.true_and, Bool.false_and, Bool.and_true, Bool.and_false, reduceIte, List.append_nil, reduceCtorEq]
  cases h1 : inRg p (-100) 100
  · simp [h1, dirV, dirOk, dirC, dirS, fr3, zq]
  · cases h2 : inRg q (-100) 100
    · simp [h1, h2, dirV, dirOk, dirC, dirS, fr3, zq]
    · by_cases h3 : (p == 0 && q == 0) = true
      · have e3 := h3
        simp only [Bool.and_eq_true, beq_iff_eq] at e3
        obtain ⟨rfl, rfl⟩ := e3
        simp [h1, dirV, dirOk, dirC, dirS, fr3, zq]
      · have hd : dirOk p q = true := by
          simp only [dirOk, h1, h2, Bool.true_and]
          cases hb : (p == 0 && q == 0) with
          | true => exact absurd hb h3
          | false => rfl
        obtain ⟨l1, l2, w1, w2, w3, w4, w5, w6, k1, k2, k3, k4, k5, k6⟩ := dir_facts hd
        have h3' : (p == 0 && q == 0) = false := by simpa using h3
        have h4 : ¬(p = 0 ∧ q = 0) := by rintro ⟨rfl, rfl⟩; exact h3 rfl
        have m1 := make_small k3 k4 k1 k2
        have m2 := make_small k5 k6 k1 k2
        simp only [m1, m2, dirV, dirC, dirS, hd, if_true, hx1', hx2', w1, w2, w3, w4, w5, w6, hx1, hx2, h1, h2, ofTree, okT, okE, evalT, evalE, evsIn, ev, callF, preF, hasF, needs, i0, b0, toI_int, toB_bool, List.getD_cons_zero, List.getD_cons_succ, List.cons_append, List.nil_append, List.replicate, if_true, if_false, Bool.false_eq_true, and_true, true_and, implies_true, forall_const, false_implies, cmpI, Bool.not_true, Bool.not_false, Bool.true_and, Bool.false_and, Bool.and_true, Bool.and_false, reduceIte, List.append_nil, reduceCtorEq]
        clear m1 m2 k1 k2 k3 k4 k5 k6 hd w1 w2 w3 w4 w5 w6 hx1 hx2 hx1' hx2' h1 h2 ht hp
        generalize p * p - q * q = A at *
        generalize 2 * p * q = B at *
        generalize p * p + q * q = C at *
        by_cases h5 : p = 0
        · by_cases h6 : q = 0
          · exact absurd ⟨h5, h6⟩ h4
          · simp [h5, h6, l1, l2]
        · simp [h5, l1, l2]

def tr_sectionOk : Tr :=
  (.evs [.call 0 [(.var 0), (.var 1)] none 7]
  (.evs [.call 1 [(.var 2), (.int .i64 0), (.int .i64 3)] (some (.var 10)) 1,
    .call 1 [(.var 3), (.int .i64 0), (.int .i64 50)] (some (.ite (.var 10) (.var 11) (.bool false))) 1]
  (.ret [(.ite (.ite (.var 10) (.var 11) (.bool false)) (.var 12) (.bool false))])))
def Fs_sectionOk : List Fun1 := [G_direction, G_within]
def F_sectionOk : Fun1 := ofTree Fs_sectionOk tr_sectionOk
def G_sectionOk : Fun1 := ⟨fun _ => True, fun ins => [.bool (secOk (i0 ins 0) (i0 ins 1) (i0 ins 2) (i0 ins 3))]⟩
theorem as_sectionOk (ins : List Value) (ht : TypedL [.int .i64, .int .i64, .int .i64, .int .i64] ins) (hp : G_sectionOk.pre ins) : F_sectionOk.pre ins ∧ F_sectionOk.out ins = G_sectionOk.out ins := by
  obtain ⟨p, q, k, n, rfl, _, _, _, _⟩ := ints4 ht
  obtain ⟨a1, a2, a3, b1, b2, b3, hv⟩ := dirV_split p q
  simp only [F_sectionOk, G_sectionOk, tr_sectionOk, Fs_sectionOk, G_direction, G_within, secOk, hv, ofTree, okT, okE, evalT, evalE, evsIn, ev, callF, preF, hasF, needs, i0, b0, toI_int, toB_bool, List.getD_cons_zero, List.getD_cons_succ, List.cons_append, List.nil_append, List.replicate, if_true, if_false, Bool.false_eq_true, and_true, true_and, implies_true, forall_const, false_implies, cmpI, Bool.not_true, Bool.not_false, Bool.true_and, Bool.false_and, Bool.and_true, Bool.and_false, reduceIte, List.append_nil, reduceCtorEq]
  cases h1 : dirOk p q <;> cases h2 : inRg k 0 3 <;> cases h3 : inRg n 0 50 <;> simp

def tr_toSection : Tr :=
  (.ret [(.var 0), (.var 1), (.var 2), (.var 3)])
def Fs_toSection : List Fun1 := []
def F_toSection : Fun1 := ofTree Fs_toSection tr_toSection

def tr_szS : Tr :=
  (.ite (.cmp .lss (.ar .sub .i64 (.var 1) (.len (.var 0))) (.int .i64 0))
  (.ret [(.int .i64 (-1))])
  (.ret [(.ar .sub .i64 (.var 1) (.len (.var 0)))]))
def Fs_szS : List Fun1 := []
def F_szS : Fun1 := ofTree Fs_szS tr_szS

def tr_iFibreValid : Tr :=
  (.lp 0 [(.int .i64 0)] [.int .i64]
  (.ite (.cmp .lss (.var 2) (.len (.var 0)))
   (.evs [.need [(.inb (.var 1) (.var 2) 4)]]
    (.evs [.call 0 [(.sel (.var 1) (.var 2) 4 0), (.sel (.var 1) (.var 2) 4 1), (.sel (.var 1) (.var 2) 4 2), (.sel (.var 1) (.var 2) 4 3)] none 1]
    (.ite (.not (.var 3))
    (.ret [(.bool false)])
    (.next 0 [(.ar .add .i64 (.var 2) (.int .i64 1))]))))
   (.ret [(.cmp .leq (.len (.var 0)) (.int .i64 8))])))
def Fs_iFibreValid : List Fun1 := [G_sectionOk]
def secP (c : Value) (k : Nat) : Bool := secOk (rq c k 0) (rq c k 1) (rq c k 2) (rq c k 3)
def F_iFibreValid : Fun1 := ⟨fun ins => Fit4 (ins.getD 0 undef) (ins.getD 1 undef), fun ins => [.bool (allB (secP (ins.getD 1 undef)) 0 (rlen (ins.getD 0 undef)) && decide (lenV (ins.getD 0 undef) ≤ 8))]⟩
theorem sat_iFibreValid (P : Program) (ins : List Value) (K : List Value → Prop) (ht : TypedL [.sl, .row .i64 4] ins) (hp : F_iFibreValid.pre ins) (hK : K (F_iFibreValid.out ins)) : sat P (specsOf Fs_iFibreValid) tr_iFibreValid ins [] K := by
  obtain ⟨x, c, rfl, hx, hcT⟩ := two_of ht
  obtain ⟨a, n, cap, rfl, hc, hn⟩ : Fit4 x c := hp
  refine ⟨fun vs => ∃ k : Nat, vs = [.int .i64 k] ∧ k ≤ n ∧ allB (secP c) 0 k = true, fun vs => n - (toI (vs.getD 0 undef)).toNat, ⟨0, rfl, Nat.zero_le _, rfl⟩, ?_⟩
  rintro vs hty ⟨k, rfl, hk, hall⟩
  refine ⟨fun h => ?_, fun h => ?_⟩
  · have hlt : k < n := by
      have : decide ((k : Int) < (n : Int)) = true := Value.bool.inj h
      simpa using this
    have hin := inb_ok hc hlt
    refine ⟨fun e he => by rw [List.mem_singleton.1 he]; exact hin, trivial, ?_⟩
    show sat P _ _ ([Value.slice a n cap, c, .int .i64 k] ++ [.bool (secP c k)]) _ K
    cases hs : secP c k with
    | false =>
      refine ⟨fun _ => ?_, fun h2 => by cases h2⟩
      have e : F_iFibreValid.out [.slice a n cap, c] = [.bool false] := by
        show [Value.bool (allB (secP c) 0 n && _)] = _
        rw [allB_not hlt hs, Bool.false_and]
      rw [e] at hK
      exact hK
    | true =>
      refine ⟨fun h2 => (by cases h2), fun _ => ?_⟩
      · refine ⟨⟨k + 1, congrArg (fun z => [Value.int .i64 z]) (wrap_next hlt hn), by omega, ?_⟩, ?_⟩
        · rw [allB_snoc, hall, Nat.zero_add]; exact hs
        · show n - (toI (.int .i64 (IntKind.i64.wrap ((k : Int) + 1)))).toNat < n - (toI (.int .i64 (k : Int))).toNat
          rw [wrap_next hlt hn]
          simp only [toI_int, Int.toNat_natCast]
          omega
  · have hge : ¬ k < n := by
      have : decide ((k : Int) < (n : Int)) = false := Value.bool.inj h
      simpa using this
    have hkn : k = n := by omega
    subst hkn
    have e : F_iFibreValid.out [.slice a k cap, c] = [.bool (decide ((k : Int) ≤ 8))] := by
      show [Value.bool (allB (secP c) 0 k && decide ((k : Int) ≤ 8))] = _
      rw [hall, Bool.true_and]
    rw [e] at hK
    exact hK

def tr_sFibreValid : Tr :=
  (.lp 0 [(.int .i64 0)] [.int .i64]
  (.ite (.cmp .lss (.var 2) (.len (.var 0)))
   (.evs [.need [(.inb (.var 1) (.var 2) 4), (.inb (.var 1) (.var 2) 4)],
      .need [(.inb (.var 1) (.var 2) 4), (.inb (.var 1) (.var 2) 4)],
      .call 0 [(.sel (.var 1) (.var 2) 4 0), (.sel (.var 1) (.var 2) 4 1)] none 7]
    (.evs [.need [(.ite (.not (.not (.var 9))) (.inb (.var 1) (.var 2) 4) (.bool true))],
      .call 1 [(.sel (.var 1) (.var 2) 4 2), (.int .i64 0), (.int .i64 3)] (some (.not (.not (.var 9)))) 1,
      .need [(.ite (.not (.ite (.not (.var 9)) (.bool true) (.not (.var 10)))) (.inb (.var 1) (.var 2) 4) (.bool true))],
      .call 1 [(.sel (.var 1) (.var 2) 4 3), (.int .i64 0), (.int .i64 50)] (some (.not (.ite (.not (.var 9)) (.bool true) (.not (.var 10))))) 1]
    (.ite (.ite (.ite (.not (.var 9)) (.bool true) (.not (.var 10))) (.bool true) (.not (.var 11)))
    (.ret [(.bool false)])
    (.next 0 [(.ar .add .i64 (.var 2) (.int .i64 1))]))))
   (.ret [(.cmp .leq (.len (.var 0)) (.int .i64 8))])))
def Fs_sFibreValid : List Fun1 := [G_l5Direction, G_l6In]
def F_sFibreValid : Fun1 := F_iFibreValid
theorem sat_sFibreValid (P : Program) (ins : List Value) (K : List Value → Prop) (ht : TypedL [.sl, .row .i64 4] ins) (hp : F_sFibreValid.pre ins) (hK : K (F_sFibreValid.out ins)) : sat P (specsOf Fs_sFibreValid) tr_sFibreValid ins [] K := by
  obtain ⟨x, c, rfl, hx, hcT⟩ := two_of ht
  obtain ⟨a, n, cap, rfl, hc, hn⟩ : Fit4 x c := hp
  refine ⟨fun vs => ∃ k : Nat, vs = [.int .i64 k] ∧ k ≤ n ∧ allB (secP c) 0 k = true, fun vs => n - (toI (vs.getD 0 undef)).toNat, ⟨0, rfl, Nat.zero_le _, rfl⟩, ?_⟩
  rintro vs hty ⟨k, rfl, hk, hall⟩
  refine ⟨fun h => ?_, fun h => ?_⟩
  · have hlt : k < n := by
      have : decide ((k : Int) < (n : Int)) = true := Value.bool.inj h
      simpa using this
    have hin := inb_ok hc hlt
    refine ⟨fun e he => by simp only [List.mem_cons, List.not_mem_nil, or_false, or_self] at he; rw [he]; exact hin, fun e he => by simp only [List.mem_cons, List.not_mem_nil, or_false, or_self] at he; rw [he]; exact hin, trivial, ?_⟩
    obtain ⟨u1, u2, u3, u4, u5, u6, hu⟩ := dirV_split (rq c k 0) (rq c k 1)
    show evSat P _ _ ([Value.slice a n cap, c, .int .i64 k] ++ dirV (rq c k 0) (rq c k 1)) _
    rw [hu]
    have bad : secP c k = false → K [.bool false] := fun hs => by
      have e : F_sFibreValid.out [.slice a n cap, c] = [.bool false] := by
        show [Value.bool (allB (secP c) 0 n && _)] = _
        rw [allB_not hlt hs, Bool.false_and]
      rw [e] at hK
      exact hK
    have hsec : secP c k = (dirOk (rq c k 0) (rq c k 1) && (inRg (rq c k 2) 0 3 && inRg (rq c k 3) 0 50)) := rfl
    cases hd : dirOk (rq c k 0) (rq c k 1) with
    | false =>
      refine ⟨fun e he => by rw [List.mem_singleton.1 he]; rfl, ⟨fun h2 => (by cases h2), fun _ => ?_⟩⟩
      refine ⟨fun e he => by rw [List.mem_singleton.1 he]; rfl, ⟨fun h2 => (by cases h2), fun _ => ?_⟩⟩
      exact ⟨fun _ => bad (by rw [hsec, hd]; rfl), fun h2 => by cases h2⟩
    | true =>
      refine ⟨fun e he => by rw [List.mem_singleton.1 he]; exact hin, ⟨fun _ => ⟨trivial, ?_⟩, fun h2 => (by cases h2)⟩⟩
      show evSat P _ _ ([Value.slice a n cap, c, .int .i64 k, .int .i64 u1, .int .i64 u2, .int .i64 u3, .int .i64 u4, .int .i64 u5, .int .i64 u6, .bool true] ++ [.bool (inRg (rq c k 2) 0 3)]) _
      cases h3 : inRg (rq c k 2) 0 3 with
      | false =>
        refine ⟨fun e he => by rw [List.mem_singleton.1 he]; rfl, ⟨fun h2 => (by cases h2), fun _ => ?_⟩⟩
        exact ⟨fun _ => bad (by rw [hsec, hd, h3]; rfl), fun h2 => by cases h2⟩
      | true =>
        refine ⟨fun e he => by rw [List.mem_singleton.1 he]; exact hin, ⟨fun _ => ⟨trivial, ?_⟩, fun h2 => (by cases h2)⟩⟩
        show sat P _ _ ([Value.slice a n cap, c, .int .i64 k, .int .i64 u1, .int .i64 u2, .int .i64 u3, .int .i64 u4, .int .i64 u5, .int .i64 u6, .bool true, .bool true] ++ [.bool (inRg (rq c k 3) 0 50)]) _ K
        cases h4 : inRg (rq c k 3) 0 50 with
        | false => exact ⟨fun _ => bad (by rw [hsec, hd, h3, h4]; rfl), fun h2 => by cases h2⟩
        | true =>
          refine ⟨fun h2 => (by cases h2), fun _ => ?_⟩
          have hs : secP c k = true := by rw [hsec, hd, h3, h4]; rfl
          · refine ⟨⟨k + 1, congrArg (fun z => [Value.int .i64 z]) (wrap_next hlt hn), by omega, ?_⟩, ?_⟩
            · rw [allB_snoc, hall, Nat.zero_add]; exact hs
            · show n - (toI (.int .i64 (IntKind.i64.wrap ((k : Int) + 1)))).toNat < n - (toI (.int .i64 (k : Int))).toNat
              rw [wrap_next hlt hn]
              simp only [toI_int, Int.toNat_natCast]
              omega
  · have hge : ¬ k < n := by
      have : decide ((k : Int) < (n : Int)) = false := Value.bool.inj h
      simpa using this
    have hkn : k = n := by omega
    subst hkn
    have e : F_sFibreValid.out [.slice a k cap, c] = [.bool (decide ((k : Int) ≤ 8))] := by
      show [Value.bool (allB (secP c) 0 k && decide ((k : Int) ≤ 8))] = _
      rw [hall, Bool.true_and]
    rw [e] at hK
    exact hK

def tr_eqSection : Tr :=
  (.ite (.cmp .neq (.var 0) (.var 4))
  (.ret [(.bool false)])
  (.ite (.cmp .neq (.var 1) (.var 5))
   (.ret [(.bool false)])
   (.ite (.cmp .neq (.var 2) (.var 6))
    (.ret [(.bool false)])
    (.ite (.cmp .neq (.var 3) (.var 7))
     (.ret [(.bool false)])
     (.ret [(.bool true)])))))
def Fs_eqSection : List Fun1 := []
def F_eqSection : Fun1 := ofTree Fs_eqSection tr_eqSection
def eq4 (p q r s x y z w : Int) : Bool := p == x && (q == y && (r == z && s == w))
def G_eqSection : Fun1 := ⟨fun _ => True, fun ins => [.bool (eq4 (i0 ins 0) (i0 ins 1) (i0 ins 2) (i0 ins 3) (i0 ins 4) (i0 ins 5) (i0 ins 6) (i0 ins 7))]⟩
theorem as_eqSection (ins : List Value) (ht : TypedL (intTs 8 ++ []) ins) (_ : G_eqSection.pre ins) : F_eqSection.pre ins ∧ F_eqSection.out ins = G_eqSection.out ins := by
  obtain ⟨g, r, rfl, h1, _⟩ := ints_lit 8 0 ht
  obtain rfl := ints0 h1
  rw [List.append_nil]
  refine ⟨okT_free (fun F hF => by cases hF) _ _ (by kernel_rfl), ?_⟩
  simp only [ivs, F_eqSection, G_eqSection, tr_eqSection, Fs_eqSection, eq4, ofTree, okT, okE, evalT, evalE, evsIn, ev, callF, preF, hasF, needs, i0, b0, toI_int, toB_bool, List.getD_cons_zero, List.getD_cons_succ, List.cons_append, List.nil_append, List.replicate, if_true, if_false, Bool.false_eq_true, and_true, true_and, implies_true, forall_const, false_implies, cmpI, Bool.not_true, Bool.not_false, Bool.true_and, Bool.false_and, Bool.and_true, Bool.and_false, reduceIte, List.append_nil, reduceCtorEq]
  by_cases h0 : g 0 = g 4 <;> by_cases h1 : g 1 = g 5 <;> by_cases h2 : g 2 = g 6 <;> by_cases h3 : g 3 = g 7 <;> simp [h0, h1, h2, h3]

def tr_eqSectionS : Tr :=
  (.ite (.cmp .neq (.len (.var 0)) (.len (.var 1)))
  (.ret [(.bool false)])
  (.lp 0 [(.int .i64 0)] [.int .i64]
   (.ite (.cmp .lss (.var 4) (.len (.var 0)))
    (.evs [.need [(.inb (.var 2) (.var 4) 4), (.inb (.var 3) (.var 4) 4)],
       .need [(.inb (.var 2) (.var 4) 4), (.inb (.var 3) (.var 4) 4)],
       .call 0 [(.sel (.var 2) (.var 4) 4 0), (.sel (.var 2) (.var 4) 4 1), (.sel (.var 2) (.var 4) 4 2), (.sel (.var 2) (.var 4) 4 3), (.sel (.var 3) (.var 4) 4 0), (.sel (.var 3) (.var 4) 4 1), (.sel (.var 3) (.var 4) 4 2), (.sel (.var 3) (.var 4) 4 3)] none 1]
     (.ite (.not (.var 5))
     (.ret [(.bool false)])
     (.next 0 [(.ar .add .i64 (.var 4) (.int .i64 1))])))
    (.ret [(.bool true)]))))
def Fs_eqSectionS : List Fun1 := [G_eqSection]
def sameP (c d : Value) (k : Nat) : Bool := eq4 (rq c k 0) (rq c k 1) (rq c k 2) (rq c k 3) (rq d k 0) (rq d k 1) (rq d k 2) (rq d k 3)
def F_eqSectionS : Fun1 := ⟨fun ins => Fit4 (ins.getD 0 undef) (ins.getD 2 undef) ∧ Fit4 (ins.getD 1 undef) (ins.getD 3 undef), fun ins => [.bool (rlen (ins.getD 0 undef) == rlen (ins.getD 1 undef) && allB (sameP (ins.getD 2 undef) (ins.getD 3 undef)) 0 (rlen (ins.getD 0 undef)))]⟩
theorem sat_eqSectionS (P : Program) (ins : List Value) (K : List Value → Prop) (ht : TypedL [.sl, .sl, .row .i64 4, .row .i64 4] ins) (hp : F_eqSectionS.pre ins) (hK : K (F_eqSectionS.out ins)) : sat P (specsOf Fs_eqSectionS) tr_eqSectionS ins [] K := by
  obtain ⟨x, y, c, d, rfl, hx, hy, hcT, hdT⟩ := four_of ht
  obtain ⟨h1, h2⟩ := hp
  obtain ⟨a, n, cap, rfl, hc, hn⟩ : Fit4 x c := h1
  obtain ⟨b, m, cap2, rfl, hd, hm⟩ : Fit4 y d := h2
  have hout : F_eqSectionS.out [.slice a n cap, .slice b m cap2, c, d] = [.bool (n == m && allB (sameP c d) 0 n)] := rfl
  rw [hout] at hK
  refine ⟨fun h => ?_, fun h => ?_⟩
  · have hne : (n == m) = false := by
      have h : (((n : Int)) != (m : Int)) = true := Value.bool.inj h
      simp only [bne_iff_ne, ne_eq, Int.natCast_inj] at h
      simpa using h
    rw [hne] at hK
    exact hK
  · have he : n = m := by
      have h : (((n : Int)) != (m : Int)) = false := Value.bool.inj h
      have h : (n : Int) = m := by simpa using h
      omega
    subst he
    refine ⟨fun vs => ∃ k : Nat, vs = [.int .i64 k] ∧ k ≤ n ∧ allB (sameP c d) 0 k = true, fun vs => n - (toI (vs.getD 0 undef)).toNat, ⟨0, rfl, Nat.zero_le _, rfl⟩, ?_⟩
    rintro vs hty ⟨k, rfl, hk, hall⟩
    refine ⟨fun h => ?_, fun h => ?_⟩
    · have hlt : k < n := by
        have : decide ((k : Int) < (n : Int)) = true := Value.bool.inj h
        simpa using this
      have hin := inb_ok hc hlt
      have hin2 := inb_ok hd hlt
      have hall2 : ∀ e ∈ ([.inb (.var 2) (.var 4) 4, .inb (.var 3) (.var 4) 4] : List Ex), ev ([.slice a n cap, .slice b n cap2, c, d] ++ [.int .i64 k]) e = .bool true := by
        intro e he
        simp only [List.mem_cons, List.not_mem_nil, or_false] at he
        rcases he with rfl | rfl
        · exact hin
        · exact hin2
      refine ⟨hall2, hall2, trivial, ?_⟩
      show sat P _ _ ([Value.slice a n cap, .slice b n cap2, c, d, .int .i64 k] ++ [.bool (sameP c d k)]) _ K
      cases hs : sameP c d k with
      | false =>
        refine ⟨fun _ => ?_, fun h2 => by cases h2⟩
        rw [allB_not hlt hs, Bool.and_false] at hK
        exact hK
      | true =>
        refine ⟨fun h2 => (by cases h2), fun _ => ?_⟩
        refine ⟨⟨k + 1, congrArg (fun z => [Value.int .i64 z]) (wrap_next hlt hn), by omega, ?_⟩, ?_⟩
        · rw [allB_snoc, hall, Nat.zero_add]; exact hs
        · show n - (toI (.int .i64 (IntKind.i64.wrap ((k : Int) + 1)))).toNat < n - (toI (.int .i64 (k : Int))).toNat
          rw [wrap_next hlt hn]
          simp only [toI_int, Int.toNat_natCast]
          omega
    · have hge : ¬ k < n := by
        have : decide ((k : Int) < (n : Int)) = false := Value.bool.inj h
        simpa using this
      have hkn : k = n := by omega
      subst hkn
      rw [hall, beq_self_eq_true, Bool.and_self] at hK
      exact hK

def SP_toS : Spec := copySpec

def tr_FnExactFibreValid : Tr :=
  (.evs [.call 0 [(.var 0), (.int .i64 1048576)] none 1]
  (.ite (.cmp .lss (.var 2) (.int .i64 0))
  (.ret [(.bool true)])
  (.evs [.call 1 [(.var 0), (.var 1)] none 2,
     .call 2 [(.var 3), (.var 4)] none 1]
   (.evs [.call 1 [(.var 0), (.var 1)] none 2]
   (.evs [.call 3 [(.var 6), (.var 7)] none 1]
   (.ite (.not (.eqb (.var 8) (.var 5)))
   (.ret [(.bool false)])
   (.evs [.call 1 [(.var 0), (.var 1)] none 2,
      .call 4 [(.var 6), (.var 9), (.var 7), (.var 10)] none 1]
    (.ite (.not (.var 11))
    (.ret [(.bool false)])
    (.ret [(.bool true)])))))))))
def Ss_FnExactFibreValid : List Spec := [F_szS.spec, SP_toS, F_sFibreValid.spec, F_iFibreValid.spec, F_eqSectionS.spec]
theorem szS_le {a : Option Addr} {n cap : Nat} (h : n ≤ 1048576) : F_szS.out [.slice a n cap, .int .i64 1048576] = [.int .i64 (1048576 - (n : Int))] := by
  have e : IntKind.i64.wrap (1048576 - (n : Int)) = 1048576 - n := wrap_in (by omega)
  have h2 : ¬ (1048576 - (n : Int) < 0) := by omega
  show (if toB (.bool (decide (IntKind.i64.wrap (1048576 - (n : Int)) < 0))) = true then [Value.int .i64 (-1)] else [.int .i64 (IntKind.i64.wrap (1048576 - (n : Int)))]) = _
  rw [e]
  simp [h2]
theorem szS_gt {a : Option Addr} {n cap : Nat} (h : ¬ n ≤ 1048576) (hn : n ≤ 9223372036854775807) : F_szS.out [.slice a n cap, .int .i64 1048576] = [.int .i64 (-1)] := by
  have e : IntKind.i64.wrap (1048576 - (n : Int)) = 1048576 - n := wrap_in (by omega)
  have h2 : (1048576 - (n : Int) < 0) := by omega
  show (if toB (.bool (decide (IntKind.i64.wrap (1048576 - (n : Int)) < 0))) = true then [Value.int .i64 (-1)] else [.int .i64 (IntKind.i64.wrap (1048576 - (n : Int)))]) = _
  rw [e]
  simp [h2]
theorem same_self (c : Value) : ∀ k, sameP c c k = true := fun k => by simp [sameP, eq4]
theorem pre_szS (ins : List Value) : F_szS.pre ins := okT_free (fun F hF => by cases hF) _ _ (by kernel_rfl)
def F_FnExactFibreValid : Fun1 := ⟨fun ins => Fit4 (ins.getD 0 undef) (ins.getD 1 undef), fun _ => [.bool true]⟩
theorem sat_FnExactFibreValid (P : Program) (ins : List Value) (K : List Value → Prop) (ht : TypedL [.sl, .row .i64 4] ins) (hp : F_FnExactFibreValid.pre ins) (hK : K (F_FnExactFibreValid.out ins)) : sat P Ss_FnExactFibreValid tr_FnExactFibreValid ins [] K := by
  obtain ⟨x, c, rfl, hx, hcT⟩ := two_of ht
  obtain ⟨a, n, cap, rfl, hc, hn⟩ : Fit4 x c := hp
  have hK : K [.bool true] := hK
  have fit : ∀ a cap, Fit4 (.slice a n cap) c := fun a cap => ⟨a, n, cap, rfl, hc, hn⟩
  refine ⟨pre_szS _, ?_⟩
  show sat P _ _ ([Value.slice a n cap, c] ++ F_szS.out [.slice a n cap, .int .i64 1048576]) _ K
  by_cases hle : n ≤ 1048576
  · rw [szS_le hle]
    refine ⟨fun h => ?_, fun _ => ?_⟩
    · have : decide (1048576 - (n : Int) < 0) = true := Value.bool.inj h
      simp at this
      omega
    refine ⟨fit a cap, hle, fun a1 cap1 => ⟨fit a1 cap1, ?_⟩⟩
    refine ⟨fit a cap, hle, fun a2 cap2 => ⟨fit a2 cap2, ?_⟩⟩
    refine ⟨fun h => ?_, fun _ => ?_⟩
    · exfalso
      have h : (!(toB (.bool (allB (secP c) 0 n && decide ((n : Int) ≤ 8))) == toB (.bool (allB (secP c) 0 n && decide ((n : Int) ≤ 8))))) = true := Value.bool.inj h
      simp at h
    refine ⟨fit a cap, hle, fun a3 cap3 => ⟨⟨fit a2 cap2, fit a3 cap3⟩, ?_⟩⟩
    have he : F_eqSectionS.out [.slice a2 n cap2, .slice a3 n cap3, c, c] = [.bool true] := by
      show [Value.bool (n == n && allB (sameP c c) 0 n)] = _
      rw [allB_true (same_self c), beq_self_eq_true, Bool.and_self]
    show sat P _ _ ([Value.slice a n cap, c, .int .i64 (1048576 - (n : Int)), .slice a1 n cap1, c, .bool (allB (secP c) 0 n && decide ((n : Int) ≤ 8)), .slice a2 n cap2, c, .bool (allB (secP c) 0 n && decide ((n : Int) ≤ 8)), .slice a3 n cap3, c] ++ F_eqSectionS.out [.slice a2 n cap2, .slice a3 n cap3, c, c]) _ K
    rw [he]
    exact ⟨fun h => (by cases h), fun _ => hK⟩
  · rw [szS_gt hle hn]
    exact ⟨fun _ => hK, fun h => (by cases h)⟩
theorem law_FnExactFibreValid (ins : List Value) (h : Fit4 (ins.getD 0 undef) (ins.getD 1 undef)) : F_FnExactFibreValid.pre ins ∧ F_FnExactFibreValid.out ins = [.bool true] := ⟨h, rfl⟩

end Go.Sx

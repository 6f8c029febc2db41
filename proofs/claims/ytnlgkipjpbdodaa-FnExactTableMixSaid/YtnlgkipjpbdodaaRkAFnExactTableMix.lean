/- What the functions reckon, by their trees. -/
import Derived.Test.YtnlgkipjpbdodaaEe
import Derived.KernelRfl
namespace Go.Sx
open Go
set_option maxRecDepth 100000
set_option linter.unusedSimpArgs false
set_option linter.unusedVariables false

def tr_size : Tr :=
  (.ret [(.mx false .i64 (.var 0) (.ar .sub .i64 (.int .i64 0) (.var 0)))])
def Fs_size : List Fun1 := []
def F_size : Fun1 := ofTree Fs_size tr_size

def tr_within : Tr :=
  (.ret [(.ite (.cmp .geq (.var 0) (.var 1)) (.cmp .leq (.var 0) (.var 2)) (.bool false))])
def Fs_within : List Fun1 := []
def F_within : Fun1 := ofTree Fs_within tr_within
def G_within : Fun1 := ⟨fun _ => True, fun ins => [.bool (inRg (i0 ins 0) (i0 ins 1) (i0 ins 2))]⟩
theorem as_within (ins : List Value) (ht : TypedL [.int .i64, .int .i64, .int .i64] ins) (_ : G_within.pre ins) : F_within.pre ins ∧ F_within.out ins = G_within.out ins := by
  obtain ⟨a, b, c, rfl, _, _, _⟩ := ints3 ht
  refine ⟨trivial, ?_⟩
  show [if (decide (a ≥ b)) = true then Value.bool (decide (a ≤ c)) else Value.bool false] = [Value.bool (decide (b ≤ a) && decide (a ≤ c))]
  by_cases h : b ≤ a <;> simp [h]

def tr_l6In : Tr :=
  (.ret [(.ite (.cmp .geq (.var 0) (.var 1)) (.cmp .leq (.var 0) (.var 2)) (.bool false))])
def Fs_l6In : List Fun1 := []
def F_l6In : Fun1 := ofTree Fs_l6In tr_l6In
def G_l6In : Fun1 := ⟨fun _ => True, fun ins => [.bool (inRg (i0 ins 0) (i0 ins 1) (i0 ins 2))]⟩
theorem as_l6In (ins : List Value) (ht : TypedL [.int .i64, .int .i64, .int .i64] ins) (_ : G_l6In.pre ins) : F_l6In.pre ins ∧ F_l6In.out ins = G_l6In.out ins := by
  obtain ⟨a, b, c, rfl, _, _, _⟩ := ints3 ht
  refine ⟨trivial, ?_⟩
  show [if (decide (a ≥ b)) = true then Value.bool (decide (a ≤ c)) else Value.bool false] = [Value.bool (decide (b ≤ a) && decide (a ≤ c))]
  by_cases h : b ≤ a <;> simp [h]

def tr_l2In : Tr :=
  (.evs [.call 0 [(.var 0), (.int .i64 (-2000000000)), (.int .i64 2000000000)] none 1]
  (.ret [(.var 1)]))
def Fs_l2In : List Fun1 := [G_l6In]
def F_l2In : Fun1 := ofTree Fs_l2In tr_l2In
def G_l2In : Fun1 := ⟨fun _ => True, fun ins => [.bool (inR (i0 ins 0))]⟩
theorem as_l2In (ins : List Value) (ht : TypedL [.int .i64] ins) (_ : G_l2In.pre ins) : F_l2In.pre ins ∧ F_l2In.out ins = G_l2In.out ins := by
  obtain ⟨a, rfl, _⟩ := ints1 ht
  exact ⟨⟨⟨trivial, trivial⟩, trivial⟩, rfl⟩

def tr_divisor : Tr :=
  (.lp 0 [(.var 0), (.var 1)] [.int .i64, .int .i64]
  (.ite (.cmp .neq (.var 3) (.int .i64 0))
   (.evs [.need [(.cmp .neq (.var 3) (.int .i64 0))]]
    (.next 0 [(.var 3), (.ar .rem .i64 (.var 2) (.var 3))]))
   (.ret [(.var 2)])))
def Fs_divisor : List Fun1 := []
def F_divisor : Fun1 := ⟨fun _ => True, fun ins => [.int .i64 (euc (i0 ins 0) (i0 ins 1))]⟩
theorem sat_divisor (P : Program) (ins : List Value) (K : List Value → Prop) (ht : TypedL [.int .i64, .int .i64] ins) (_ : F_divisor.pre ins) (hK : K (F_divisor.out ins)) : sat P (specsOf Fs_divisor) tr_divisor ins [] K := by
  obtain ⟨a, b, rfl, wa, wb⟩ := ints2 ht
  refine ⟨fun vs => ∃ x y, vs = [.int .i64 x, .int .i64 y] ∧ euc x y = euc a b, fun vs => (toI (vs.getD 1 undef)).natAbs, ⟨a, b, rfl, rfl⟩, ?_⟩
  rintro vs hty ⟨x, y, rfl, he⟩
  refine ⟨fun hc => ?_, fun hc => ?_⟩
  · have hy : y ≠ 0 := by simpa [ev, cmpI] using hc
    refine ⟨fun e he' => by rw [List.mem_singleton.1 he']; exact hc, ⟨_, _, rfl, ?_⟩, ?_⟩
    · rw [← he, euc_step hy]; rfl
    · show (x.tmod y).natAbs < y.natAbs
      rw [Int.natAbs_tmod]
      exact Nat.mod_lt _ (by omega)
  · have hy : y = 0 := by simpa [ev, cmpI] using hc
    subst hy
    rw [euc_zero] at he
    show K [.int .i64 x]
    rw [he]
    exact hK

def tr_l2Gcd : Tr :=
  (.lp 0 [(.var 0), (.var 1)] [.int .i64, .int .i64]
  (.ite (.cmp .neq (.var 3) (.int .i64 0))
   (.evs [.need [(.cmp .neq (.var 3) (.int .i64 0))]]
    (.next 0 [(.var 3), (.ar .rem .i64 (.var 2) (.var 3))]))
   (.ret [(.mx false .i64 (.var 2) (.ar .sub .i64 (.int .i64 0) (.var 2)))])))
def Fs_l2Gcd : List Fun1 := []
def F_l2Gcd : Fun1 := ⟨fun _ => True, fun ins => [.int .i64 (mxI false (euc (i0 ins 0) (i0 ins 1)) (IntKind.i64.wrap (0 - euc (i0 ins 0) (i0 ins 1))))]⟩
theorem sat_l2Gcd (P : Program) (ins : List Value) (K : List Value → Prop) (ht : TypedL [.int .i64, .int .i64] ins) (_ : F_l2Gcd.pre ins) (hK : K (F_l2Gcd.out ins)) : sat P (specsOf Fs_l2Gcd) tr_l2Gcd ins [] K := by
  obtain ⟨a, b, rfl, wa, wb⟩ := ints2 ht
  refine ⟨fun vs => ∃ x y, vs = [.int .i64 x, .int .i64 y] ∧ euc x y = euc a b, fun vs => (toI (vs.getD 1 undef)).natAbs, ⟨a, b, rfl, rfl⟩, ?_⟩
  rintro vs hty ⟨x, y, rfl, he⟩
  refine ⟨fun hc => ?_, fun hc => ?_⟩
  · have hy : y ≠ 0 := by simpa [ev, cmpI] using hc
    refine ⟨fun e he' => by rw [List.mem_singleton.1 he']; exact hc, ⟨_, _, rfl, ?_⟩, ?_⟩
    · rw [← he, euc_step hy]; rfl
    · show (x.tmod y).natAbs < y.natAbs
      rw [Int.natAbs_tmod]
      exact Nat.mod_lt _ (by omega)
  · have hy : y = 0 := by simpa [ev, cmpI] using hc
    subst hy
    rw [euc_zero] at he
    show K [.int .i64 (mxI false x (IntKind.i64.wrap (0 - x)))]
    rw [he]
    exact hK

def tr_lowest : Tr :=
  (.evs [.call 0 [(.var 0)] none 1,
    .call 0 [(.var 1)] none 1,
    .call 1 [(.var 3), (.var 4)] none 1,
    .call 1 [(.var 5), (.var 2)] none 1]
  (.evs [.need [(.cmp .neq (.var 6) (.int .i64 0)), (.cmp .neq (.var 6) (.int .i64 0)), (.cmp .neq (.var 6) (.int .i64 0))]]
  (.evs [.call 2 [(.ar .quo .i64 (.var 0) (.var 6)), (.int .i64 (-2000000000)), (.int .i64 2000000000)] none 1,
    .call 2 [(.ar .quo .i64 (.var 1) (.var 6)), (.int .i64 (-2000000000)), (.int .i64 2000000000)] (some (.not (.not (.var 7)))) 1]
  (.ite (.ite (.ite (.not (.var 7)) (.bool true) (.not (.var 8))) (.bool true) (.cmp .gtr (.ar .quo .i64 (.var 2) (.var 6)) (.int .i64 2000000000)))
  (.ret [(.int .i64 0), (.int .i64 0), (.int .i64 0), (.bool false)])
  (.ret [(.ar .quo .i64 (.var 0) (.var 6)), (.ar .quo .i64 (.var 1) (.var 6)), (.ar .quo .i64 (.var 2) (.var 6)), (.bool true)])))))
def Fs_lowest : List Fun1 := [F_size, F_divisor, G_within]
def F_lowest : Fun1 := ofTree Fs_lowest tr_lowest
def G_lowest : Fun1 := ⟨fun ins => lowOk (i0 ins 0) (i0 ins 1) (i0 ins 2), fun ins => fr4 (lowI (i0 ins 0) (i0 ins 1) (i0 ins 2))⟩
theorem as_lowest (ins : List Value) (ht : TypedL [.int .i64, .int .i64, .int .i64] ins) (hp : G_lowest.pre ins) : F_lowest.pre ins ∧ F_lowest.out ins = G_lowest.out ins := by
  obtain ⟨a, b, c, rfl, wa, wb, wc⟩ := ints3 ht
  obtain ⟨p1, p2, p3, p4, p5, p6⟩ : lowOk a b c := hp
  have e1 := size_abs ⟨p1, p2⟩
  have e2 := size_abs ⟨p3, p4⟩
  have e3 : euc (a.natAbs : Nat) (b.natAbs : Nat) = (Nat.gcd a.natAbs b.natAbs : Nat) := euc_nat _ _
  have e4 : euc (Nat.gcd a.natAbs b.natAbs : Nat) c = (gcd3 a b c : Nat) := by rw [euc_eq (by omega) (by omega)]; rfl
  have hg : gcd3 a b c ≠ 0 := by have := gcd3_pos (a := a) (b := b) p5; omega
  have hgi : ((gcd3 a b c : Nat) : Int) ≠ 0 := by omega
  have q1 := quo_ok (g := gcd3 a b c) ⟨p1, p2⟩
  have q2 := quo_ok (g := gcd3 a b c) ⟨p3, p4⟩
  have q3 := quo_ok (a := c) (g := gcd3 a b c) ⟨by omega, p6⟩
  simp only [F_lowest, G_lowest, tr_lowest, Fs_lowest, F_size, tr_size, Fs_size, F_divisor, G_within, lowI, arI, ofTree, okT, okE, evalT, evalE, evsIn, ev, callF, preF, hasF, needs, i0, b0, toI_int, toB_bool, List.getD_cons_zero, List.getD_cons_succ, List.cons_append, List.nil_append, List.replicate, if_true, if_false, Bool.false_eq_true, and_true, true_and, implies_true, forall_const, false_implies, cmpI, Bool.not_true, Bool.not_false, Bool.true_and, Bool.false_and, Bool.and_true, Bool.and_false, reduceIte, List.append_nil, reduceCtorEq, e1, e2, e3, e4, q1, q2, q3]
  have r1 : ∀ z, inRg z (-2000000000) 2000000000 = inR z := fun _ => rfl
  simp only [r1]
  cases h1 : inR (a.tdiv (gcd3 a b c)) <;> cases h2 : inR (b.tdiv (gcd3 a b c)) <;> by_cases h3 : c.tdiv (gcd3 a b c) ≤ 2000000000 <;> simp [h1, h2, h3, hgi, hg, fr4, zq] <;> omega

def tr_sFracValid : Tr :=
  (.evs [.call 0 [(.var 0)] none 1,
    .call 0 [(.var 1)] (some (.var 3)) 1,
    .call 1 [(.var 2), (.int .i64 1), (.int .i64 2000000000)] (some (.ite (.var 3) (.var 4) (.bool false))) 1,
    .call 2 [(.var 2), (.var 0)] (some (.ite (.ite (.var 3) (.var 4) (.bool false)) (.var 5) (.bool false))) 1,
    .call 2 [(.var 6), (.var 1)] (some (.ite (.ite (.var 3) (.var 4) (.bool false)) (.var 5) (.bool false))) 1]
  (.ret [(.ite (.ite (.ite (.var 3) (.var 4) (.bool false)) (.var 5) (.bool false)) (.cmp .eql (.var 7) (.int .i64 1)) (.bool false))]))
def Fs_sFracValid : List Fun1 := [G_l2In, G_l6In, F_l2Gcd]
def F_sFracValid : Fun1 := ofTree Fs_sFracValid tr_sFracValid
def G_sFracValid : Fun1 := ⟨fun _ => True, fun ins => [.bool (validI (i0 ins 0) (i0 ins 1) (i0 ins 2))]⟩
theorem as_sFracValid (ins : List Value) (ht : TypedL [.int .i64, .int .i64, .int .i64] ins) (_ : G_sFracValid.pre ins) : F_sFracValid.pre ins ∧ F_sFracValid.out ins = G_sFracValid.out ins := by
  obtain ⟨a, b, c, rfl, wa, wb, wc⟩ := ints3 ht
  have key : inR a = true → inR b = true → inRg c 1 2000000000 = true → mxI false (euc c a) (IntKind.i64.wrap (0 - euc c a)) = (Nat.gcd c.natAbs a.natAbs : Nat) ∧
      mxI false (euc (Nat.gcd c.natAbs a.natAbs : Nat) b) (IntKind.i64.wrap (0 - euc (Nat.gcd c.natAbs a.natAbs : Nat) b)) = (gcd3 a b c : Nat) := by
    intro ha hb hc
    simp only [inR, inRg, Bool.and_eq_true, decide_eq_true_eq] at ha hb hc
    have h0 : Nat.gcd c.natAbs a.natAbs ≤ c.natAbs := Nat.gcd_le_left _ (by omega)
    have hp : 0 < Nat.gcd c.natAbs a.natAbs := Nat.gcd_pos_of_pos_left _ (by omega)
    refine ⟨gcd_small (by omega), ?_⟩
    have h2 : Nat.gcd ((Nat.gcd c.natAbs a.natAbs : Nat) : Int).natAbs b.natAbs ≤ Nat.gcd c.natAbs a.natAbs := Nat.gcd_le_left _ hp
    rw [gcd_small (by omega), Int.natAbs_natCast, gcd3_alt]
  simp only [F_sFracValid, G_sFracValid, tr_sFracValid, Fs_sFracValid, G_l2In, G_l6In, F_l2Gcd, validI, ofTree, okT, okE, evalT, evalE, evsIn, ev, callF, preF, hasF, needs, i0, b0, toI_int, toB_bool, List.getD_cons_zero, List.getD_cons_succ, List.cons_append, List.nil_append, List.replicate, if_true, if_false, Bool.false_eq_true, and_true, true_and, implies_true, forall_const, false_implies, cmpI, Bool.not_true, Bool.not_false, Bool.true_and, Bool.false_and, Bool.and_true, Bool.and_false, reduceIte, List.append_nil, reduceCtorEq]
  cases ha : inR a
  · simp [ha]
  · cases hb : inR b
    · simp [ha, hb]
    · cases hc : inRg c 1 2000000000
      · simp [ha, hb, hc]
      · obtain ⟨k1, k2⟩ := key ha hb hc
        simp only [ha, hb, hc, k1, k2, ofTree, okT, okE, evalT, evalE, evsIn, ev, callF, preF, hasF, needs, i0, b0, toI_int, toB_bool, List.getD_cons_zero, List.getD_cons_succ, List.cons_append, List.nil_append, List.replicate, if_true, if_false, Bool.false_eq_true, and_true, true_and, implies_true, forall_const, false_implies, cmpI, Bool.not_true, Bool.not_false, Bool.true_and, Bool.false_and, Bool.and_true, Bool.and_false, reduceIte, List.append_nil, reduceCtorEq]
        simp
        by_cases h1 : gcd3 a b c = 1
        · simp [h1]
        · rw [beq_eq_false_iff_ne.2 h1, beq_eq_false_iff_ne]
          omega

def tr_l2Low : Tr :=
  (.evs [.call 0 [(.var 2), (.var 0)] none 1,
    .call 0 [(.var 3), (.var 1)] none 1]
  (.evs [.need [(.cmp .neq (.var 4) (.int .i64 0)), (.cmp .neq (.var 4) (.int .i64 0)), (.cmp .neq (.var 4) (.int .i64 0))]]
  (.evs [.call 1 [(.ar .quo .i64 (.var 0) (.var 4)), (.ar .quo .i64 (.var 1) (.var 4)), (.ar .quo .i64 (.var 2) (.var 4))] none 1]
  (.ite (.not (.var 5))
  (.ret [(.int .i64 0), (.int .i64 0), (.int .i64 0), (.bool false)])
  (.ret [(.ar .quo .i64 (.var 0) (.var 4)), (.ar .quo .i64 (.var 1) (.var 4)), (.ar .quo .i64 (.var 2) (.var 4)), (.bool true)])))))
def Fs_l2Low : List Fun1 := [F_l2Gcd, G_sFracValid]
def F_l2Low : Fun1 := ofTree Fs_l2Low tr_l2Low
def G_l2Low : Fun1 := ⟨fun ins => lowOk (i0 ins 0) (i0 ins 1) (i0 ins 2), fun ins => fr4 (lowI (i0 ins 0) (i0 ins 1) (i0 ins 2))⟩
theorem as_l2Low (ins : List Value) (ht : TypedL [.int .i64, .int .i64, .int .i64] ins) (hp : G_l2Low.pre ins) : F_l2Low.pre ins ∧ F_l2Low.out ins = G_l2Low.out ins := by
  obtain ⟨a, b, c, rfl, wa, wb, wc⟩ := ints3 ht
  obtain ⟨p1, p2, p3, p4, p5, p6⟩ : lowOk a b c := hp
  have hc0 : 0 < c.natAbs := by omega
  have g1 : Nat.gcd c.natAbs a.natAbs ≤ c.natAbs := Nat.gcd_le_left _ hc0
  have gp : 0 < Nat.gcd c.natAbs a.natAbs := Nat.gcd_pos_of_pos_left _ hc0
  have e1 : mxI false (euc c a) (IntKind.i64.wrap (0 - euc c a)) = (Nat.gcd c.natAbs a.natAbs : Nat) := gcd_small (by omega)
  have g2 : Nat.gcd ((Nat.gcd c.natAbs a.natAbs : Nat) : Int).natAbs b.natAbs ≤ Nat.gcd c.natAbs a.natAbs := Nat.gcd_le_left _ gp
  have e2 : mxI false (euc (Nat.gcd c.natAbs a.natAbs : Nat) b) (IntKind.i64.wrap (0 - euc (Nat.gcd c.natAbs a.natAbs : Nat) b)) = (gcd3 a b c : Nat) := by
    rw [gcd_small (by omega), Int.natAbs_natCast, gcd3_alt]
  have hg : gcd3 a b c ≠ 0 := by have := gcd3_pos (a := a) (b := b) p5; omega
  have hgi : ((gcd3 a b c : Nat) : Int) ≠ 0 := by omega
  have q1 := quo_ok (g := gcd3 a b c) ⟨p1, p2⟩
  have q2 := quo_ok (g := gcd3 a b c) ⟨p3, p4⟩
  have q3 := quo_ok (a := c) (g := gcd3 a b c) ⟨by omega, p6⟩
  simp only [F_l2Low, G_l2Low, tr_l2Low, Fs_l2Low, F_l2Gcd, G_sFracValid, lowI, arI, ofTree, okT, okE, evalT, evalE, evsIn, ev, callF, preF, hasF, needs, i0, b0, toI_int, toB_bool, List.getD_cons_zero, List.getD_cons_succ, List.cons_append, List.nil_append, List.replicate, if_true, if_false, Bool.false_eq_true, and_true, true_and, implies_true, forall_const, false_implies, cmpI, Bool.not_true, Bool.not_false, Bool.true_and, Bool.false_and, Bool.and_true, Bool.and_false, reduceIte, List.append_nil, reduceCtorEq, e1, e2, q1, q2, q3, valid_low p5]
  cases h1 : inR (a.tdiv (gcd3 a b c)) <;> cases h2 : inR (b.tdiv (gcd3 a b c)) <;> by_cases h3 : c.tdiv (gcd3 a b c) ≤ 2000000000 <;> simp [h1, h2, h3, hgi, hg, fr4, zq] <;> omega

def tr_sFracMake : Tr :=
  (.evs [.call 0 [(.var 2), (.int .i64 1), (.int .i64 1000000000000000000)] none 1,
    .call 0 [(.var 0), (.int .i64 (-1000000000000000000)), (.int .i64 1000000000000000000)] (some (.not (.not (.var 3)))) 1,
    .call 0 [(.var 1), (.int .i64 (-1000000000000000000)), (.int .i64 1000000000000000000)] (some (.not (.ite (.not (.var 3)) (.bool true) (.not (.var 4))))) 1]
  (.ite (.ite (.ite (.not (.var 3)) (.bool true) (.not (.var 4))) (.bool true) (.not (.var 5)))
  (.ret [(.int .i64 0), (.int .i64 0), (.int .i64 0), (.bool false)])
  (.evs [.call 1 [(.var 0), (.var 1), (.var 2)] none 4]
   (.ret [(.var 6), (.var 7), (.var 8), (.var 9)]))))
def Fs_sFracMake : List Fun1 := [G_l6In, G_l2Low]
def F_sFracMake : Fun1 := ofTree Fs_sFracMake tr_sFracMake
def G_sFracMake : Fun1 := ⟨fun _ => True, fun ins => fr4 (makeI (i0 ins 0) (i0 ins 1) (i0 ins 2))⟩
theorem as_sFracMake (ins : List Value) (ht : TypedL [.int .i64, .int .i64, .int .i64] ins) (hp : G_sFracMake.pre ins) : F_sFracMake.pre ins ∧ F_sFracMake.out ins = G_sFracMake.out ins := by
  obtain ⟨a, b, c, rfl, wa, wb, wc⟩ := ints3 ht
  have hlow : inRg c 1 most = true → inRg a (-most) most = true → inRg b (-most) most = true → lowOk a b c := by
    intro h1 h2 h3
    simp only [inRg, Bool.and_eq_true, decide_eq_true_eq] at h1 h2 h3
    unfold most at h1 h2 h3
    unfold lowOk
    omega
  obtain ⟨x, y, z, t, hx⟩ := fr4_split (lowI a b c)
  simp only [F_sFracMake, G_sFracMake, tr_sFracMake, Fs_sFracMake, G_l6In, G_l2Low, makeI, ofTree, okT, okE, evalT, evalE, evsIn, ev, callF, preF, hasF, needs, i0, b0, toI_int, toB_bool, List.getD_cons_zero, List.getD_cons_succ, List.cons_append, List.nil_append, List.replicate, if_true, if_false, Bool.false_eq_true, and_true, true_and, implies_true, forall_const, false_implies, cmpI, Bool.not_true, Bool.not_false, Bool.true_and, Bool.false_and, Bool.and_true, Bool.and_false, reduceIte, List.append_nil, reduceCtorEq]
  have r1 : inRg c 1 1000000000000000000 = inRg c 1 most := rfl
  have r2 : ∀ z, inRg z (-1000000000000000000) 1000000000000000000 = inRg z (-most) most := fun _ => rfl
  simp only [r1, r2]
  cases h1 : inRg c 1 most
  · simp [h1, fr4, zq]
  · cases h2 : inRg a (-most) most
    · simp [h1, h2, fr4, zq]
    · cases h3 : inRg b (-most) most
      · simp [h1, h2, h3, fr4, zq]
      · simp [h1, h2, h3, hx, hlow h1 h2 h3]

def tr_iFracValid : Tr :=
  (.evs [.call 0 [(.var 0), (.int .i64 (-2000000000)), (.int .i64 2000000000)] none 1,
    .call 0 [(.var 1), (.int .i64 (-2000000000)), (.int .i64 2000000000)] (some (.var 3)) 1,
    .call 0 [(.var 2), (.int .i64 1), (.int .i64 2000000000)] (some (.ite (.var 3) (.var 4) (.bool false))) 1,
    .call 2 [(.var 0)] (some (.ite (.ite (.var 3) (.var 4) (.bool false)) (.var 5) (.bool false))) 1,
    .call 2 [(.var 1)] (some (.ite (.ite (.var 3) (.var 4) (.bool false)) (.var 5) (.bool false))) 1,
    .call 1 [(.var 6), (.var 7)] (some (.ite (.ite (.var 3) (.var 4) (.bool false)) (.var 5) (.bool false))) 1,
    .call 1 [(.var 8), (.var 2)] (some (.ite (.ite (.var 3) (.var 4) (.bool false)) (.var 5) (.bool false))) 1]
  (.ret [(.ite (.ite (.ite (.var 3) (.var 4) (.bool false)) (.var 5) (.bool false)) (.cmp .eql (.var 9) (.int .i64 1)) (.bool false))]))
def Fs_iFracValid : List Fun1 := [G_within, F_divisor, F_size]
def F_iFracValid : Fun1 := ofTree Fs_iFracValid tr_iFracValid
def G_iFracValid : Fun1 := ⟨fun _ => True, fun ins => [.bool (validI (i0 ins 0) (i0 ins 1) (i0 ins 2))]⟩
theorem as_iFracValid (ins : List Value) (ht : TypedL [.int .i64, .int .i64, .int .i64] ins) (_ : G_iFracValid.pre ins) : F_iFracValid.pre ins ∧ F_iFracValid.out ins = G_iFracValid.out ins := by
  obtain ⟨a, b, c, rfl, wa, wb, wc⟩ := ints3 ht
  have key : inR a = true → inR b = true → inRg c 1 2000000000 = true → mxI false a (IntKind.i64.wrap (0 - a)) = a.natAbs ∧ mxI false b (IntKind.i64.wrap (0 - b)) = b.natAbs ∧
      euc (a.natAbs : Nat) (b.natAbs : Nat) = (Nat.gcd a.natAbs b.natAbs : Nat) ∧ euc (Nat.gcd a.natAbs b.natAbs : Nat) c = (gcd3 a b c : Nat) := by
    intro ha hb hc
    simp only [inR, inRg, Bool.and_eq_true, decide_eq_true_eq] at ha hb hc
    exact ⟨size_abs (by omega), size_abs (by omega), euc_nat _ _, by rw [euc_eq (by omega) (by omega)]; rfl⟩
  have r1 : ∀ z, inRg z (-2000000000) 2000000000 = inR z := fun _ => rfl
  cases ha : inR a
  · simp only [F_iFracValid, G_iFracValid, tr_iFracValid, Fs_iFracValid, G_within, F_divisor, F_size, tr_size, Fs_size, validI, arI, r1, ha, ofTree, okT, okE, evalT, evalE, evsIn, ev, callF, preF, hasF, needs, i0, b0, toI_int, toB_bool, List.getD_cons_zero, List.getD_cons_succ, List.cons_append, List.nil_append, List.replicate, if_true, if_false, Bool.false_eq_true, and_true, true_and, implies_true, forall_const, false_implies, cmpI, Bool.not_true, Bool.not_false, Bool.true_and, Bool.false_and, Bool.and_true, Bool.and_false, reduceIte, List.append_nil, reduceCtorEq]
  · cases hb : inR b
    · simp only [F_iFracValid, G_iFracValid, tr_iFracValid, Fs_iFracValid, G_within, F_divisor, F_size, tr_size, Fs_size, validI, arI, r1, ha, hb, ofTree, okT, okE, evalT, evalE, evsIn, ev, callF, preF, hasF, needs, i0, b0, toI_int, toB_bool, List.getD_cons_zero, List.getD_cons_succ, List.cons_append, List.nil_append, List.replicate, if_true, if_false, Bool.false_eq_true, and_true, true_and, implies_true, forall_const, false_implies, cmpI, Bool.not_true, Bool.not_false, Bool.true_and, Bool.false_and, Bool.and_true, Bool.and_false, reduceIte, List.append_nil, reduceCtorEq]
    · cases hc : inRg c 1 2000000000
      · simp only [F_iFracValid, G_iFracValid, tr_iFracValid, Fs_iFracValid, G_within, F_divisor, F_size, tr_size, Fs_size, validI, arI, r1, ha, hb, hc, ofTree, okT, okE, evalT, evalE, evsIn, ev, callF, preF, hasF, needs, i0, b0, toI_int, toB_bool, List.getD_cons_zero, List.getD_cons_succ, List.cons_append, List.nil_append, List.replicate, if_true, if_false, Bool.false_eq_true, and_true, true_and, implies_true, forall_const, false_implies, cmpI, Bool.not_true, Bool.not_false, Bool.true_and, Bool.false_and, Bool.and_true, Bool.and_false, reduceIte, List.append_nil, reduceCtorEq]
      · obtain ⟨k1, k2, k3, k4⟩ := key ha hb hc
        simp only [F_iFracValid, G_iFracValid, tr_iFracValid, Fs_iFracValid, G_within, F_divisor, F_size, tr_size, Fs_size, validI, arI, r1, ha, hb, hc, k1, k2, k3, k4, ofTree, okT, okE, evalT, evalE, evsIn, ev, callF, preF, hasF, needs, i0, b0, toI_int, toB_bool, List.getD_cons_zero, List.getD_cons_succ, List.cons_append, List.nil_append, List.replicate, if_true, if_false, Bool.false_eq_true, and_true, true_and, implies_true, forall_const, false_implies, cmpI, Bool.not_true, Bool.not_false, Bool.true_and, Bool.false_and, Bool.and_true, Bool.and_false, reduceIte, List.append_nil, reduceCtorEq]
        by_cases h1 : gcd3 a b c = 1
        · simp [h1]
        · have h2 : ((gcd3 a b c : Nat) : Int) ≠ 1 := by omega
          rw [beq_eq_false_iff_ne.2 h2, beq_eq_false_iff_ne.2 h1]

def tr_realOk : Tr :=
  (.evs [.call 0 [(.var 0), (.var 1), (.var 2)] none 1]
  (.ret [(.ite (.var 3) (.cmp .eql (.var 1) (.int .i64 0)) (.bool false))]))
def Fs_realOk : List Fun1 := [G_iFracValid]
def F_realOk : Fun1 := ofTree Fs_realOk tr_realOk
def G_realOk : Fun1 := ⟨fun _ => True, fun ins => [.bool (realQ (q3 ins 0))]⟩
theorem as_realOk (ins : List Value) (ht : TypedL [.int .i64, .int .i64, .int .i64] ins) (_ : G_realOk.pre ins) : F_realOk.pre ins ∧ F_realOk.out ins = G_realOk.out ins := by
  obtain ⟨a, b, c, rfl, wa, wb, wc⟩ := ints3 ht
  simp only [F_realOk, G_realOk, tr_realOk, Fs_realOk, G_iFracValid, realQ, validQ, q3, ofTree, okT, okE, evalT, evalE, evsIn, ev, callF, preF, hasF, needs, i0, b0, toI_int, toB_bool, List.getD_cons_zero, List.getD_cons_succ, List.cons_append, List.nil_append, List.replicate, if_true, if_false, Bool.false_eq_true, and_true, true_and, implies_true, forall_const, false_implies, cmpI, Bool.not_true, Bool.not_false, Bool.true_and, Bool.false_and, Bool.and_true, Bool.and_false, reduceIte, List.append_nil, reduceCtorEq]
  cases h : validI a b c <;> simp [h]

def tr_iFracAdd : Tr :=
  (.evs [.call 0 [(.var 0), (.var 1), (.var 2)] none 1,
    .call 0 [(.var 3), (.var 4), (.var 5)] (some (.not (.not (.var 6)))) 1]
  (.ite (.ite (.not (.var 6)) (.bool true) (.not (.var 7)))
  (.ret [(.int .i64 0), (.int .i64 0), (.int .i64 0), (.bool false)])
  (.evs [.call 1 [(.ar .add .i64 (.ar .mul .i64 (.var 0) (.var 5)) (.ar .mul .i64 (.var 3) (.var 2))), (.ar .add .i64 (.ar .mul .i64 (.var 1) (.var 5)) (.ar .mul .i64 (.var 4) (.var 2))), (.ar .mul .i64 (.var 2) (.var 5))] none 4]
   (.ret [(.var 8), (.var 9), (.var 10), (.var 11)]))))
def Fs_iFracAdd : List Fun1 := [G_iFracValid, G_lowest]
def F_iFracAdd : Fun1 := ofTree Fs_iFracAdd tr_iFracAdd
def G_iFracAdd : Fun1 := ⟨fun _ => True, fun ins => fr4 (addQ (q3 ins 0) (q3 ins 3))⟩
theorem as_iFracAdd (ins : List Value) (ht : TypedL [.int .i64, .int .i64, .int .i64, .int .i64, .int .i64, .int .i64] ins) (_ : G_iFracAdd.pre ins) : F_iFracAdd.pre ins ∧ F_iFracAdd.out ins = G_iFracAdd.out ins := by
  obtain ⟨a, b, c, x, y, z, rfl, _⟩ := ints6 ht
  simp only [F_iFracAdd, G_iFracAdd, tr_iFracAdd, Fs_iFracAdd, G_iFracValid, G_lowest, addQ, validQ, q3, arI, ofTree, okT, okE, evalT, evalE, evsIn, ev, callF, preF, hasF, needs, i0, b0, toI_int, toB_bool, List.getD_cons_zero, List.getD_cons_succ, List.cons_append, List.nil_append, List.replicate, if_true, if_false, Bool.false_eq_true, and_true, true_and, implies_true, forall_const, false_implies, cmpI, Bool.not_true, Bool.not_false, Bool.true_and, Bool.false_and, Bool.and_true, Bool.and_false, reduceIte, List.append_nil, reduceCtorEq]
  cases h : validI a b c
  · simp [h, fr4, zq]
  · cases k : validI x y z
    · simp [h, k, fr4, zq]
    · obtain ⟨e1, e2, e3, e4, e5, e6, e7, e8, e9, l1, l2⟩ := sum_facts h k
      simp only [h, k, e1, e2, e3, e4, e5, e6, e7, ofTree, okT, okE, evalT, evalE, evsIn, ev, callF, preF, hasF, needs, i0, b0, toI_int, toB_bool, List.getD_cons_zero, List.getD_cons_succ, List.cons_append, List.nil_append, List.replicate, if_true, if_false, Bool.false_eq_true, and_true, true_and, implies_true, forall_const, false_implies, cmpI, Bool.not_true, Bool.not_false, Bool.true_and, Bool.false_and, Bool.and_true, Bool.and_false, reduceIte, List.append_nil, reduceCtorEq]
      simp [fr4, l1]

def tr_iFracTimes : Tr :=
  (.evs [.call 0 [(.var 0), (.var 1), (.var 2)] none 1,
    .call 0 [(.var 3), (.var 4), (.var 5)] (some (.not (.not (.var 6)))) 1]
  (.ite (.ite (.not (.var 6)) (.bool true) (.not (.var 7)))
  (.ret [(.int .i64 0), (.int .i64 0), (.int .i64 0), (.bool false)])
  (.evs [.call 1 [(.ar .sub .i64 (.ar .mul .i64 (.var 0) (.var 3)) (.ar .mul .i64 (.var 1) (.var 4))), (.ar .add .i64 (.ar .mul .i64 (.var 0) (.var 4)) (.ar .mul .i64 (.var 1) (.var 3))), (.ar .mul .i64 (.var 2) (.var 5))] none 4]
   (.ret [(.var 8), (.var 9), (.var 10), (.var 11)]))))
def Fs_iFracTimes : List Fun1 := [G_iFracValid, G_lowest]
def F_iFracTimes : Fun1 := ofTree Fs_iFracTimes tr_iFracTimes
def G_iFracTimes : Fun1 := ⟨fun _ => True, fun ins => fr4 (timesQ (q3 ins 0) (q3 ins 3))⟩
theorem as_iFracTimes (ins : List Value) (ht : TypedL [.int .i64, .int .i64, .int .i64, .int .i64, .int .i64, .int .i64] ins) (_ : G_iFracTimes.pre ins) : F_iFracTimes.pre ins ∧ F_iFracTimes.out ins = G_iFracTimes.out ins := by
  obtain ⟨a, b, c, x, y, z, rfl, _⟩ := ints6 ht
  simp only [F_iFracTimes, G_iFracTimes, tr_iFracTimes, Fs_iFracTimes, G_iFracValid, G_lowest, timesQ, validQ, q3, arI, ofTree, okT, okE, evalT, evalE, evsIn, ev, callF, preF, hasF, needs, i0, b0, toI_int, toB_bool, List.getD_cons_zero, List.getD_cons_succ, List.cons_append, List.nil_append, List.replicate, if_true, if_false, Bool.false_eq_true, and_true, true_and, implies_true, forall_const, false_implies, cmpI, Bool.not_true, Bool.not_false, Bool.true_and, Bool.false_and, Bool.and_true, Bool.and_false, reduceIte, List.append_nil, reduceCtorEq]
  cases h : validI a b c
  · simp [h, fr4, zq]
  · cases k : validI x y z
    · simp [h, k, fr4, zq]
    · obtain ⟨e1, e2, e3, e4, e5, e6, e7, l1⟩ := mul_facts h k
      simp only [h, k, e1, e2, e3, e4, e5, e6, e7, ofTree, okT, okE, evalT, evalE, evsIn, ev, callF, preF, hasF, needs, i0, b0, toI_int, toB_bool, List.getD_cons_zero, List.getD_cons_succ, List.cons_append, List.nil_append, List.replicate, if_true, if_false, Bool.false_eq_true, and_true, true_and, implies_true, forall_const, false_implies, cmpI, Bool.not_true, Bool.not_false, Bool.true_and, Bool.false_and, Bool.and_true, Bool.and_false, reduceIte, List.append_nil, reduceCtorEq]
      simp [fr4, l1]

def tr_l2Sum : Tr :=
  (.evs [.call 0 [(.var 0), (.var 1), (.var 2)] none 1,
    .call 0 [(.var 4), (.var 5), (.var 6)] (some (.not (.not (.var 7)))) 1]
  (.ite (.ite (.not (.var 7)) (.bool true) (.not (.var 8)))
  (.ret [(.int .i64 0), (.int .i64 0), (.int .i64 0), (.bool false)])
  (.evs [.call 1 [(.ar .add .i64 (.ar .mul .i64 (.var 0) (.var 6)) (.ar .mul .i64 (.ar .mul .i64 (.var 3) (.var 4)) (.var 2))), (.ar .add .i64 (.ar .mul .i64 (.var 1) (.var 6)) (.ar .mul .i64 (.ar .mul .i64 (.var 3) (.var 5)) (.var 2))), (.ar .mul .i64 (.var 2) (.var 6))] none 4]
   (.ret [(.var 9), (.var 10), (.var 11), (.var 12)]))))
def Fs_l2Sum : List Fun1 := [G_sFracValid, G_l2Low]
def F_l2Sum : Fun1 := ofTree Fs_l2Sum tr_l2Sum
def G_l2Sum : Fun1 := ⟨fun ins => i0 ins 3 = 1 ∨ i0 ins 3 = -1, fun ins => fr4 (if i0 ins 3 = 1 then addQ (q3 ins 0) (q3 ins 4) else lessQ (q3 ins 0) (q3 ins 4))⟩
theorem as_l2Sum (ins : List Value) (ht : TypedL [.int .i64, .int .i64, .int .i64, .int .i64, .int .i64, .int .i64, .int .i64] ins) (hp : G_l2Sum.pre ins) : F_l2Sum.pre ins ∧ F_l2Sum.out ins = G_l2Sum.out ins := by
  obtain ⟨a, r1, rfl, w1, ht1⟩ := int_cons ht
  obtain ⟨b, c, s, x, y, z, rfl, _⟩ := ints6 ht1
  have hs : s = 1 ∨ s = -1 := hp
  clear hp
  cases h : validI a b c
  · rcases hs with rfl | rfl <;>
    · simp only [F_l2Sum, G_l2Sum, tr_l2Sum, Fs_l2Sum, G_sFracValid, G_l2Low, addQ, lessQ, validQ, q3, arI, h, ofTree, okT, okE, evalT, evalE, evsIn, ev, callF, preF, hasF, needs, i0, b0, toI_int, toB_bool, List.getD_cons_zero, List.getD_cons_succ, List.cons_append, List.nil_append, List.replicate, if_true, if_false, Bool.false_eq_true, and_true, true_and, implies_true, forall_const, false_implies, cmpI, Bool.not_true, Bool.not_false, Bool.true_and, Bool.false_and, Bool.and_true, Bool.and_false, reduceIte, List.append_nil, reduceCtorEq]
      simp [fr4, zq]
  · cases k : validI x y z
    · rcases hs with rfl | rfl <;>
      · simp only [F_l2Sum, G_l2Sum, tr_l2Sum, Fs_l2Sum, G_sFracValid, G_l2Low, addQ, lessQ, validQ, q3, arI, h, k, ofTree, okT, okE, evalT, evalE, evsIn, ev, callF, preF, hasF, needs, i0, b0, toI_int, toB_bool, List.getD_cons_zero, List.getD_cons_succ, List.cons_append, List.nil_append, List.replicate, if_true, if_false, Bool.false_eq_true, and_true, true_and, implies_true, forall_const, false_implies, cmpI, Bool.not_true, Bool.not_false, Bool.true_and, Bool.false_and, Bool.and_true, Bool.and_false, reduceIte, List.append_nil, reduceCtorEq]
        simp [fr4, zq]
    · obtain ⟨e1, e2, e3, e4, e5, e6, e7, e8, e9, l1, l2⟩ := sum_facts h k
      obtain ⟨k1, k2, _⟩ := valid_bounds k
      rcases hs with rfl | rfl
      · have u1 : IntKind.i64.wrap (1 * x) = x := by rw [Int.one_mul]; exact wrap_in (by omega)
        have u2 : IntKind.i64.wrap (1 * y) = y := by rw [Int.one_mul]; exact wrap_in (by omega)
        simp only [F_l2Sum, G_l2Sum, tr_l2Sum, Fs_l2Sum, G_sFracValid, G_l2Low, addQ, lessQ, validQ, q3, arI, h, k, u1, u2, e1, e2, e3, e4, e5, e6, e7, ofTree, okT, okE, evalT, evalE, evsIn, ev, callF, preF, hasF, needs, i0, b0, toI_int, toB_bool, List.getD_cons_zero, List.getD_cons_succ, List.cons_append, List.nil_append, List.replicate, if_true, if_false, Bool.false_eq_true, and_true, true_and, implies_true, forall_const, false_implies, cmpI, Bool.not_true, Bool.not_false, Bool.true_and, Bool.false_and, Bool.and_true, Bool.and_false, reduceIte, List.append_nil, reduceCtorEq]
        simp [fr4, l1]
      · have u1 : IntKind.i64.wrap (-1 * x) = -x := by rw [Int.neg_one_mul]; exact wrap_in (by omega)
        have u2 : IntKind.i64.wrap (-1 * y) = -y := by rw [Int.neg_one_mul]; exact wrap_in (by omega)
        have m2 := mulB k1 (b := c) (by have := valid_bounds h; omega)
        have m4 := mulB k2 (b := c) (by have := valid_bounds h; omega)
        have v1 : IntKind.i64.wrap (-x * c) = -(x * c) := by rw [Int.neg_mul]; exact wrap_in (by omega)
        have v2 : IntKind.i64.wrap (-y * c) = -(y * c) := by rw [Int.neg_mul]; exact wrap_in (by omega)
        have v3 : IntKind.i64.wrap (a * z + -(x * c)) = a * z - x * c := by rw [← Int.sub_eq_add_neg]; exact e8
        have v4 : IntKind.i64.wrap (b * z + -(y * c)) = b * z - y * c := by rw [← Int.sub_eq_add_neg]; exact e9
        simp only [F_l2Sum, G_l2Sum, tr_l2Sum, Fs_l2Sum, G_sFracValid, G_l2Low, addQ, lessQ, validQ, q3, arI, h, k, u1, u2, v1, v2, v3, v4, e1, e3, e5, ofTree, okT, okE, evalT, evalE, evsIn, ev, callF, preF, hasF, needs, i0, b0, toI_int, toB_bool, List.getD_cons_zero, List.getD_cons_succ, List.cons_append, List.nil_append, List.replicate, if_true, if_false, Bool.false_eq_true, and_true, true_and, implies_true, forall_const, false_implies, cmpI, Bool.not_true, Bool.not_false, Bool.true_and, Bool.false_and, Bool.and_true, Bool.and_false, reduceIte, List.append_nil, reduceCtorEq]
        simp [fr4, l2]

def tr_sFracAdd : Tr :=
  (.evs [.call 0 [(.var 0), (.var 1), (.var 2), (.int .i64 1), (.var 3), (.var 4), (.var 5)] none 4]
  (.ret [(.var 6), (.var 7), (.var 8), (.var 9)]))
def Fs_sFracAdd : List Fun1 := [G_l2Sum]
def F_sFracAdd : Fun1 := ofTree Fs_sFracAdd tr_sFracAdd
def G_sFracAdd : Fun1 := ⟨fun _ => True, fun ins => fr4 (addQ (q3 ins 0) (q3 ins 3))⟩
theorem as_sFracAdd (ins : List Value) (ht : TypedL [.int .i64, .int .i64, .int .i64, .int .i64, .int .i64, .int .i64] ins) (_ : G_sFracAdd.pre ins) : F_sFracAdd.pre ins ∧ F_sFracAdd.out ins = G_sFracAdd.out ins := by
  obtain ⟨a, b, c, x, y, z, rfl, _⟩ := ints6 ht
  exact ⟨⟨⟨.inl rfl, trivial⟩, trivial⟩, rfl⟩

def tr_sFracTimes : Tr :=
  (.evs [.call 0 [(.var 0), (.var 1), (.var 2)] none 1,
    .call 0 [(.var 3), (.var 4), (.var 5)] (some (.not (.not (.var 6)))) 1]
  (.ite (.ite (.not (.var 6)) (.bool true) (.not (.var 7)))
  (.ret [(.int .i64 0), (.int .i64 0), (.int .i64 0), (.bool false)])
  (.evs [.call 1 [(.ar .sub .i64 (.ar .mul .i64 (.var 0) (.var 3)) (.ar .mul .i64 (.var 1) (.var 4))), (.ar .add .i64 (.ar .mul .i64 (.var 0) (.var 4)) (.ar .mul .i64 (.var 1) (.var 3))), (.ar .mul .i64 (.var 2) (.var 5))] none 4]
   (.ret [(.var 8), (.var 9), (.var 10), (.var 11)]))))
def Fs_sFracTimes : List Fun1 := [G_sFracValid, G_l2Low]
def F_sFracTimes : Fun1 := ofTree Fs_sFracTimes tr_sFracTimes
def G_sFracTimes : Fun1 := ⟨fun _ => True, fun ins => fr4 (timesQ (q3 ins 0) (q3 ins 3))⟩
theorem as_sFracTimes (ins : List Value) (ht : TypedL [.int .i64, .int .i64, .int .i64, .int .i64, .int .i64, .int .i64] ins) (_ : G_sFracTimes.pre ins) : F_sFracTimes.pre ins ∧ F_sFracTimes.out ins = G_sFracTimes.out ins := by
  obtain ⟨a, b, c, x, y, z, rfl, _⟩ := ints6 ht
  simp only [F_sFracTimes, G_sFracTimes, tr_sFracTimes, Fs_sFracTimes, G_sFracValid, G_l2Low, timesQ, validQ, q3, arI, ofTree, okT, okE, evalT, evalE, evsIn, ev, callF, preF, hasF, needs, i0, b0, toI_int, toB_bool, List.getD_cons_zero, List.getD_cons_succ, List.cons_append, List.nil_append, List.replicate, if_true, if_false, Bool.false_eq_true, and_true, true_and, implies_true, forall_const, false_implies, cmpI, Bool.not_true, Bool.not_false, Bool.true_and, Bool.false_and, Bool.and_true, Bool.and_false, reduceIte, List.append_nil, reduceCtorEq]
  cases h : validI a b c
  · simp [h, fr4, zq]
  · cases k : validI x y z
    · simp [h, k, fr4, zq]
    · obtain ⟨e1, e2, e3, e4, e5, e6, e7, l1⟩ := mul_facts h k
      simp only [h, k, e1, e2, e3, e4, e5, e6, e7, ofTree, okT, okE, evalT, evalE, evsIn, ev, callF, preF, hasF, needs, i0, b0, toI_int, toB_bool, List.getD_cons_zero, List.getD_cons_succ, List.cons_append, List.nil_append, List.replicate, if_true, if_false, Bool.false_eq_true, and_true, true_and, implies_true, forall_const, false_implies, cmpI, Bool.not_true, Bool.not_false, Bool.true_and, Bool.false_and, Bool.and_true, Bool.and_false, reduceIte, List.append_nil, reduceCtorEq]
      simp [fr4, l1]

def tr_keep : Tr :=
  (.ite (.not (.var 3))
  (.ret [(.int .i64 0), (.int .i64 0), (.int .i64 0), (.bool true)])
  (.ret [(.var 0), (.var 1), (.var 2), (.var 4)]))
def Fs_keep : List Fun1 := []
def F_keep : Fun1 := ofTree Fs_keep tr_keep

def tr_add : Tr :=
  (.evs [.call 0 [(.var 0), (.var 1), (.var 2), (.var 3), (.var 4), (.var 5)] none 4,
    .call 1 [(.var 7), (.var 8), (.var 9), (.var 10), (.var 6)] none 4]
  (.ret [(.var 11), (.var 12), (.var 13), (.var 14)]))
def Fs_add : List Fun1 := [G_iFracAdd, F_keep]
def F_add : Fun1 := ofTree Fs_add tr_add
def G_add : Fun1 := ⟨fun _ => True, fun ins => fr3 (addQ (q3 ins 0) (q3 ins 3)) ++ [.bool (b0 ins 6 || !(addQ (q3 ins 0) (q3 ins 3)).isSome)]⟩
theorem as_add (ins : List Value) (ht : TypedL [.int .i64, .int .i64, .int .i64, .int .i64, .int .i64, .int .i64, .bool] ins) (_ : G_add.pre ins) : F_add.pre ins ∧ F_add.out ins = G_add.out ins := by
  obtain ⟨a, r1, rfl, _, ht1⟩ := int_cons ht
  obtain ⟨b, r2, rfl, _, ht2⟩ := int_cons ht1
  obtain ⟨c, r3, rfl, _, ht3⟩ := int_cons ht2
  obtain ⟨x, r4, rfl, _, ht4⟩ := int_cons ht3
  obtain ⟨y, r5, rfl, _, ht5⟩ := int_cons ht4
  obtain ⟨z, r6, rfl, _, ht6⟩ := int_cons ht5
  obtain ⟨t, r7, rfl, ht7⟩ := bool_cons ht6
  obtain rfl := ints0 ht7
  simp only [F_add, G_add, tr_add, Fs_add, G_iFracAdd, F_keep, tr_keep, Fs_keep, q3, fr4, fr3, ofTree, okT, okE, evalT, evalE, evsIn, ev, callF, preF, hasF, needs, i0, b0, toI_int, toB_bool, List.getD_cons_zero, List.getD_cons_succ, List.cons_append, List.nil_append, List.replicate, if_true, if_false, Bool.false_eq_true, and_true, true_and, implies_true, forall_const, false_implies, cmpI, Bool.not_true, Bool.not_false, Bool.true_and, Bool.false_and, Bool.and_true, Bool.and_false, reduceIte, List.append_nil, reduceCtorEq]
  cases h : addQ (a, b, c) (x, y, z) <;> simp [zq]

def tr_times : Tr :=
  (.evs [.call 0 [(.var 0), (.var 1), (.var 2), (.var 3), (.var 4), (.var 5)] none 4,
    .call 1 [(.var 7), (.var 8), (.var 9), (.var 10), (.var 6)] none 4]
  (.ret [(.var 11), (.var 12), (.var 13), (.var 14)]))
def Fs_times : List Fun1 := [G_iFracTimes, F_keep]
def F_times : Fun1 := ofTree Fs_times tr_times
def G_times : Fun1 := ⟨fun _ => True, fun ins => fr3 (timesQ (q3 ins 0) (q3 ins 3)) ++ [.bool (b0 ins 6 || !(timesQ (q3 ins 0) (q3 ins 3)).isSome)]⟩
theorem as_times (ins : List Value) (ht : TypedL [.int .i64, .int .i64, .int .i64, .int .i64, .int .i64, .int .i64, .bool] ins) (_ : G_times.pre ins) : F_times.pre ins ∧ F_times.out ins = G_times.out ins := by
  obtain ⟨a, r1, rfl, _, ht1⟩ := int_cons ht
  obtain ⟨b, r2, rfl, _, ht2⟩ := int_cons ht1
  obtain ⟨c, r3, rfl, _, ht3⟩ := int_cons ht2
  obtain ⟨x, r4, rfl, _, ht4⟩ := int_cons ht3
  obtain ⟨y, r5, rfl, _, ht5⟩ := int_cons ht4
  obtain ⟨z, r6, rfl, _, ht6⟩ := int_cons ht5
  obtain ⟨t, r7, rfl, ht7⟩ := bool_cons ht6
  obtain rfl := ints0 ht7
  simp only [F_times, G_times, tr_times, Fs_times, G_iFracTimes, F_keep, tr_keep, Fs_keep, q3, fr4, fr3, ofTree, okT, okE, evalT, evalE, evsIn, ev, callF, preF, hasF, needs, i0, b0, toI_int, toB_bool, List.getD_cons_zero, List.getD_cons_succ, List.cons_append, List.nil_append, List.replicate, if_true, if_false, Bool.false_eq_true, and_true, true_and, implies_true, forall_const, false_implies, cmpI, Bool.not_true, Bool.not_false, Bool.true_and, Bool.false_and, Bool.and_true, Bool.and_false, reduceIte, List.append_nil, reduceCtorEq]
  cases h : timesQ (a, b, c) (x, y, z) <;> simp [zq]

def tr_need : Tr :=
  (.ite (.not (.var 0))
  (.ret [(.bool true)])
  (.ret [(.var 1)]))
def Fs_need : List Fun1 := []
def F_need : Fun1 := ofTree Fs_need tr_need
def G_need : Fun1 := ⟨fun _ => True, fun ins => [.bool (b0 ins 1 || !b0 ins 0)]⟩
theorem as_need (ins : List Value) (ht : TypedL [.bool, .bool] ins) (_ : G_need.pre ins) : F_need.pre ins ∧ F_need.out ins = G_need.out ins := by
  obtain ⟨s, r1, rfl, ht1⟩ := bool_cons ht
  obtain ⟨t, r2, rfl, ht2⟩ := bool_cons ht1
  obtain rfl := ints0 ht2
  simp only [F_need, G_need, tr_need, Fs_need, ofTree, okT, okE, evalT, evalE, evsIn, ev, callF, preF, hasF, needs, i0, b0, toI_int, toB_bool, List.getD_cons_zero, List.getD_cons_succ, List.cons_append, List.nil_append, List.replicate, if_true, if_false, Bool.false_eq_true, and_true, true_and, implies_true, forall_const, false_implies, cmpI, Bool.not_true, Bool.not_false, Bool.true_and, Bool.false_and, Bool.and_true, Bool.and_false, reduceIte, List.append_nil, reduceCtorEq]
  cases s <;> cases t <;> simp

def tr_toFrac : Tr :=
  (.ret [(.var 0), (.var 1), (.var 2)])
def Fs_toFrac : List Fun1 := []
def F_toFrac : Fun1 := ofTree Fs_toFrac tr_toFrac

def tr_eqFrac : Tr :=
  (.ite (.cmp .neq (.var 0) (.var 3))
  (.ret [(.bool false)])
  (.ite (.cmp .neq (.var 1) (.var 4))
   (.ret [(.bool false)])
   (.ite (.cmp .neq (.var 2) (.var 5))
    (.ret [(.bool false)])
    (.ret [(.bool true)]))))
def Fs_eqFrac : List Fun1 := []
def F_eqFrac : Fun1 := ofTree Fs_eqFrac tr_eqFrac
def eqQ (a b : Q) : Bool := a.1 == b.1 && (a.2.1 == b.2.1 && a.2.2 == b.2.2)
def G_eqFrac : Fun1 := ⟨fun _ => True, fun ins => [.bool (eqQ (q3 ins 0) (q3 ins 3))]⟩
theorem as_eqFrac (ins : List Value) (ht : TypedL [.int .i64, .int .i64, .int .i64, .int .i64, .int .i64, .int .i64] ins) (_ : G_eqFrac.pre ins) : F_eqFrac.pre ins ∧ F_eqFrac.out ins = G_eqFrac.out ins := by
  obtain ⟨a, b, c, x, y, z, rfl, _⟩ := ints6 ht
  refine ⟨okT_free (fun F hF => by cases hF) _ _ (by kernel_rfl), ?_⟩
  simp only [F_eqFrac, G_eqFrac, tr_eqFrac, Fs_eqFrac, eqQ, q3, ofTree, okT, okE, evalT, evalE, evsIn, ev, callF, preF, hasF, needs, i0, b0, toI_int, toB_bool, List.getD_cons_zero, List.getD_cons_succ, List.cons_append, List.nil_append, List.replicate, if_true, if_false, Bool.false_eq_true, and_true, true_and, implies_true, forall_const, false_implies, cmpI, Bool.not_true, Bool.not_false, Bool.true_and, Bool.false_and, Bool.and_true, Bool.and_false, reduceIte, List.append_nil, reduceCtorEq]
  cases h1 : (a == x) <;> cases h2 : (b == y) <;> cases h3 : (c == z) <;> simp [bne, h1, h2, h3]
theorem eqQ_self (a : Q) : eqQ a a = true := by simp [eqQ]

def tr_toFracA16 : Tr :=
  (.evs [.call 0 [(.var 0), (.var 1), (.var 2)] none 3]
  (.evs [.call 0 [(.var 3), (.var 4), (.var 5)] none 3]
  (.evs [.call 0 [(.var 6), (.var 7), (.var 8)] none 3]
  (.evs [.call 0 [(.var 9), (.var 10), (.var 11)] none 3]
  (.evs [.call 0 [(.var 12), (.var 13), (.var 14)] none 3]
  (.evs [.call 0 [(.var 15), (.var 16), (.var 17)] none 3]
  (.evs [.call 0 [(.var 18), (.var 19), (.var 20)] none 3]
  (.evs [.call 0 [(.var 21), (.var 22), (.var 23)] none 3]
  (.evs [.call 0 [(.var 24), (.var 25), (.var 26)] none 3]
  (.evs [.call 0 [(.var 27), (.var 28), (.var 29)] none 3]
  (.evs [.call 0 [(.var 30), (.var 31), (.var 32)] none 3]
  (.evs [.call 0 [(.var 33), (.var 34), (.var 35)] none 3]
  (.evs [.call 0 [(.var 36), (.var 37), (.var 38)] none 3]
  (.evs [.call 0 [(.var 39), (.var 40), (.var 41)] none 3]
  (.evs [.call 0 [(.var 42), (.var 43), (.var 44)] none 3]
  (.evs [.call 0 [(.var 45), (.var 46), (.var 47)] none 3]
  (.ret [(.var 48), (.var 49), (.var 50), (.var 51), (.var 52), (.var 53), (.var 54), (.var 55), (.var 56), (.var 57), (.var 58), (.var 59), (.var 60), (.var 61), (.var 62), (.var 63), (.var 64), (.var 65), (.var 66), (.var 67), (.var 68), (.var 69), (.var 70), (.var 71), (.var 72), (.var 73), (.var 74), (.var 75), (.var 76), (.var 77), (.var 78), (.var 79), (.var 80), (.var 81), (.var 82), (.var 83), (.var 84), (.var 85), (.var 86), (.var 87), (.var 88), (.var 89), (.var 90), (.var 91), (.var 92), (.var 93), (.var 94), (.var 95)])))))))))))))))))
def Fs_toFracA16 : List Fun1 := [F_toFrac]
def F_toFracA16 : Fun1 := ofTree Fs_toFracA16 tr_toFracA16

def tr_toTable : Tr :=
  (.evs [.call 0 [(.var 0), (.var 1), (.var 2), (.var 3), (.var 4), (.var 5), (.var 6), (.var 7), (.var 8), (.var 9), (.var 10), (.var 11), (.var 12), (.var 13), (.var 14), (.var 15), (.var 16), (.var 17), (.var 18), (.var 19), (.var 20), (.var 21), (.var 22), (.var 23), (.var 24), (.var 25), (.var 26), (.var 27), (.var 28), (.var 29), (.var 30), (.var 31), (.var 32), (.var 33), (.var 34), (.var 35), (.var 36), (.var 37), (.var 38), (.var 39), (.var 40), (.var 41), (.var 42), (.var 43), (.var 44), (.var 45), (.var 46), (.var 47)] none 48]
  (.ret [(.var 48), (.var 49), (.var 50), (.var 51), (.var 52), (.var 53), (.var 54), (.var 55), (.var 56), (.var 57), (.var 58), (.var 59), (.var 60), (.var 61), (.var 62), (.var 63), (.var 64), (.var 65), (.var 66), (.var 67), (.var 68), (.var 69), (.var 70), (.var 71), (.var 72), (.var 73), (.var 74), (.var 75), (.var 76), (.var 77), (.var 78), (.var 79), (.var 80), (.var 81), (.var 82), (.var 83), (.var 84), (.var 85), (.var 86), (.var 87), (.var 88), (.var 89), (.var 90), (.var 91), (.var 92), (.var 93), (.var 94), (.var 95)]))
def Fs_toTable : List Fun1 := [F_toFracA16]
def F_toTable : Fun1 := ofTree Fs_toTable tr_toTable
def G_toTable : Fun1 := ⟨fun _ => True, fun ins => copyV ins 0 48⟩
theorem out_toTable : (fun (g : Nat → Int) => F_toTable.out (ivs g 0 48)) = fun g => G_toTable.out (ivs g 0 48) := by kernel_rfl
theorem pre_toFracA16 (ins : List Value) : F_toFracA16.pre ins :=
  okT_free (by intro F hF ins; simp only [Fs_toFracA16, List.mem_singleton] at hF; rw [hF]; exact okT_free (fun F hF => by cases hF) _ _ (by kernel_rfl)) _ _ (by kernel_rfl)
theorem as_toTable (ins : List Value) (ht : TypedL (intTs 48 ++ []) ins) (_ : G_toTable.pre ins) : F_toTable.pre ins ∧ F_toTable.out ins = G_toTable.out ins := by
  obtain ⟨g, r, rfl, h1, _⟩ := ints_lit 48 0 ht
  obtain rfl := ints0 h1
  rw [List.append_nil]
  exact ⟨okT_free (by intro F hF ins; simp only [Fs_toTable, List.mem_singleton] at hF; rw [hF]; exact pre_toFracA16 ins) _ _ (by kernel_rfl), congrFun out_toTable g⟩

def tr_eqFracA16 : Tr :=
  (.evs [.call 0 [(.var 0), (.var 1), (.var 2), (.var 48), (.var 49), (.var 50)] none 1]
  (.ite (.not (.var 96))
  (.ret [(.bool false)])
  (.evs [.call 0 [(.var 3), (.var 4), (.var 5), (.var 51), (.var 52), (.var 53)] none 1]
   (.ite (.not (.var 97))
   (.ret [(.bool false)])
   (.evs [.call 0 [(.var 6), (.var 7), (.var 8), (.var 54), (.var 55), (.var 56)] none 1]
    (.ite (.not (.var 98))
    (.ret [(.bool false)])
    (.evs [.call 0 [(.var 9), (.var 10), (.var 11), (.var 57), (.var 58), (.var 59)] none 1]
     (.ite (.not (.var 99))
     (.ret [(.bool false)])
     (.evs [.call 0 [(.var 12), (.var 13), (.var 14), (.var 60), (.var 61), (.var 62)] none 1]
      (.ite (.not (.var 100))
      (.ret [(.bool false)])
      (.evs [.call 0 [(.var 15), (.var 16), (.var 17), (.var 63), (.var 64), (.var 65)] none 1]
       (.ite (.not (.var 101))
       (.ret [(.bool false)])
       (.evs [.call 0 [(.var 18), (.var 19), (.var 20), (.var 66), (.var 67), (.var 68)] none 1]
        (.ite (.not (.var 102))
        (.ret [(.bool false)])
        (.evs [.call 0 [(.var 21), (.var 22), (.var 23), (.var 69), (.var 70), (.var 71)] none 1]
         (.ite (.not (.var 103))
         (.ret [(.bool false)])
         (.evs [.call 0 [(.var 24), (.var 25), (.var 26), (.var 72), (.var 73), (.var 74)] none 1]
          (.ite (.not (.var 104))
          (.ret [(.bool false)])
          (.evs [.call 0 [(.var 27), (.var 28), (.var 29), (.var 75), (.var 76), (.var 77)] none 1]
           (.ite (.not (.var 105))
           (.ret [(.bool false)])
           (.evs [.call 0 [(.var 30), (.var 31), (.var 32), (.var 78), (.var 79), (.var 80)] none 1]
            (.ite (.not (.var 106))
            (.ret [(.bool false)])
            (.evs [.call 0 [(.var 33), (.var 34), (.var 35), (.var 81), (.var 82), (.var 83)] none 1]
             (.ite (.not (.var 107))
             (.ret [(.bool false)])
             (.evs [.call 0 [(.var 36), (.var 37), (.var 38), (.var 84), (.var 85), (.var 86)] none 1]
              (.ite (.not (.var 108))
              (.ret [(.bool false)])
              (.evs [.call 0 [(.var 39), (.var 40), (.var 41), (.var 87), (.var 88), (.var 89)] none 1]
               (.ite (.not (.var 109))
               (.ret [(.bool false)])
               (.evs [.call 0 [(.var 42), (.var 43), (.var 44), (.var 90), (.var 91), (.var 92)] none 1]
                (.ite (.not (.var 110))
                (.ret [(.bool false)])
                (.evs [.call 0 [(.var 45), (.var 46), (.var 47), (.var 93), (.var 94), (.var 95)] none 1]
                 (.ite (.not (.var 111))
                 (.ret [(.bool false)])
                 (.ret [(.bool true)])))))))))))))))))))))))))))))))))
def Fs_eqFracA16 : List Fun1 := [G_eqFrac]
def F_eqFracA16 : Fun1 := ofTree Fs_eqFracA16 tr_eqFracA16
def G_eqFracA16 : Fun1 := ⟨fun _ => True, fun ins => [.bool (allB (fun k => eqQ (q3 ins (3 * k)) (q3 ins (48 + 3 * k))) 0 16)]⟩
theorem out_eqFracA16 : (fun (g : Nat → Int) => F_eqFracA16.out (ivs g 0 96)) = fun g => nestC (fun k => .bool (!eqQ (q3 (ivs g 0 96) (3 * k)) (q3 (ivs g 0 96) (48 + 3 * k)))) 0 16 := by kernel_rfl
theorem as_eqFracA16 (ins : List Value) (ht : TypedL (intTs 96 ++ []) ins) (_ : G_eqFracA16.pre ins) : F_eqFracA16.pre ins ∧ F_eqFracA16.out ins = G_eqFracA16.out ins := by
  obtain ⟨g, r, rfl, h1, _⟩ := ints_lit 96 0 ht
  obtain rfl := ints0 h1
  rw [List.append_nil]
  refine ⟨okT_free (by intro F hF ins; simp only [Fs_eqFracA16, List.mem_singleton] at hF; rw [hF]; trivial) _ _ (by kernel_rfl), (congrFun out_eqFracA16 g).trans ?_⟩
  exact nestC_eq (fun k => rfl) 16 0

def tr_eqTable : Tr :=
  (.evs [.call 0 [(.var 0), (.var 1), (.var 2), (.var 3), (.var 4), (.var 5), (.var 6), (.var 7), (.var 8), (.var 9), (.var 10), (.var 11), (.var 12), (.var 13), (.var 14), (.var 15), (.var 16), (.var 17), (.var 18), (.var 19), (.var 20), (.var 21), (.var 22), (.var 23), (.var 24), (.var 25), (.var 26), (.var 27), (.var 28), (.var 29), (.var 30), (.var 31), (.var 32), (.var 33), (.var 34), (.var 35), (.var 36), (.var 37), (.var 38), (.var 39), (.var 40), (.var 41), (.var 42), (.var 43), (.var 44), (.var 45), (.var 46), (.var 47), (.var 48), (.var 49), (.var 50), (.var 51), (.var 52), (.var 53), (.var 54), (.var 55), (.var 56), (.var 57), (.var 58), (.var 59), (.var 60), (.var 61), (.var 62), (.var 63), (.var 64), (.var 65), (.var 66), (.var 67), (.var 68), (.var 69), (.var 70), (.var 71), (.var 72), (.var 73), (.var 74), (.var 75), (.var 76), (.var 77), (.var 78), (.var 79), (.var 80), (.var 81), (.var 82), (.var 83), (.var 84), (.var 85), (.var 86), (.var 87), (.var 88), (.var 89), (.var 90), (.var 91), (.var 92), (.var 93), (.var 94), (.var 95)] none 1]
  (.ite (.not (.var 96))
  (.ret [(.bool false)])
  (.ret [(.bool true)])))
def Fs_eqTable : List Fun1 := [G_eqFracA16]
def F_eqTable : Fun1 := ofTree Fs_eqTable tr_eqTable
def G_eqTable : Fun1 := G_eqFracA16
theorem out_eqTable : (fun (g : Nat → Int) => F_eqTable.out (ivs g 0 96)) = fun g => nestC (fun _ => .bool (!allB (fun k => eqQ (q3 (ivs g 0 96) (3 * k)) (q3 (ivs g 0 96) (48 + 3 * k))) 0 16)) 0 1 := by kernel_rfl
theorem as_eqTable (ins : List Value) (ht : TypedL (intTs 96 ++ []) ins) (_ : G_eqTable.pre ins) : F_eqTable.pre ins ∧ F_eqTable.out ins = G_eqTable.out ins := by
  obtain ⟨g, r, rfl, h1, _⟩ := ints_lit 96 0 ht
  obtain rfl := ints0 h1
  rw [List.append_nil]
  refine ⟨okT_free (by intro F hF ins; simp only [Fs_eqTable, List.mem_singleton] at hF; rw [hF]; trivial) _ _ (by kernel_rfl), (congrFun out_eqTable g).trans ?_⟩
  rw [nestC_eq (p := fun _ => allB (fun k => eqQ (q3 (ivs g 0 96) (3 * k)) (q3 (ivs g 0 96) (48 + 3 * k))) 0 16) (fun k => rfl) 1 0]
  exact congrArg (fun b => [Value.bool b]) (Bool.and_true _)

def tr_iTableValid : Tr :=
  (.evs [.call 0 [(.var 0), (.var 1), (.var 2)] none 1]
  (.ite (.not (.var 48))
  (.ret [(.bool false)])
  (.evs [.call 0 [(.var 3), (.var 4), (.var 5)] none 1]
   (.ite (.not (.var 49))
   (.ret [(.bool false)])
   (.evs [.call 0 [(.var 6), (.var 7), (.var 8)] none 1]
    (.ite (.not (.var 50))
    (.ret [(.bool false)])
    (.evs [.call 0 [(.var 9), (.var 10), (.var 11)] none 1]
     (.ite (.not (.var 51))
     (.ret [(.bool false)])
     (.evs [.call 0 [(.var 12), (.var 13), (.var 14)] none 1]
      (.ite (.not (.var 52))
      (.ret [(.bool false)])
      (.evs [.call 0 [(.var 15), (.var 16), (.var 17)] none 1]
       (.ite (.not (.var 53))
       (.ret [(.bool false)])
       (.evs [.call 0 [(.var 18), (.var 19), (.var 20)] none 1]
        (.ite (.not (.var 54))
        (.ret [(.bool false)])
        (.evs [.call 0 [(.var 21), (.var 22), (.var 23)] none 1]
         (.ite (.not (.var 55))
         (.ret [(.bool false)])
         (.evs [.call 0 [(.var 24), (.var 25), (.var 26)] none 1]
          (.ite (.not (.var 56))
          (.ret [(.bool false)])
          (.evs [.call 0 [(.var 27), (.var 28), (.var 29)] none 1]
           (.ite (.not (.var 57))
           (.ret [(.bool false)])
           (.evs [.call 0 [(.var 30), (.var 31), (.var 32)] none 1]
            (.ite (.not (.var 58))
            (.ret [(.bool false)])
            (.evs [.call 0 [(.var 33), (.var 34), (.var 35)] none 1]
             (.ite (.not (.var 59))
             (.ret [(.bool false)])
             (.evs [.call 0 [(.var 36), (.var 37), (.var 38)] none 1]
              (.ite (.not (.var 60))
              (.ret [(.bool false)])
              (.evs [.call 0 [(.var 39), (.var 40), (.var 41)] none 1]
               (.ite (.not (.var 61))
               (.ret [(.bool false)])
               (.evs [.call 0 [(.var 42), (.var 43), (.var 44)] none 1]
                (.ite (.not (.var 62))
                (.ret [(.bool false)])
                (.evs [.call 0 [(.var 45), (.var 46), (.var 47)] none 1]
                 (.ite (.not (.var 63))
                 (.ret [(.bool false)])
                 (.ret [(.bool true)])))))))))))))))))))))))))))))))))
def Fs_iTableValid : List Fun1 := [G_realOk]
def F_iTableValid : Fun1 := ofTree Fs_iTableValid tr_iTableValid
def G_iTableValid : Fun1 := ⟨fun _ => True, fun ins => [.bool (tabQ fun k => q3 ins (3 * k))]⟩
theorem out_iTableValid : (fun (g : Nat → Int) => F_iTableValid.out (ivs g 0 48)) = fun g => nestC (fun k => .bool (!realQ (q3 (ivs g 0 48) (3 * k)))) 0 16 := by kernel_rfl
theorem as_iTableValid (ins : List Value) (ht : TypedL (intTs 48 ++ []) ins) (_ : G_iTableValid.pre ins) : F_iTableValid.pre ins ∧ F_iTableValid.out ins = G_iTableValid.out ins := by
  obtain ⟨g, r, rfl, h1, _⟩ := ints_lit 48 0 ht
  obtain rfl := ints0 h1
  rw [List.append_nil]
  refine ⟨okT_free (by intro F hF ins; simp only [Fs_iTableValid, List.mem_singleton] at hF; rw [hF]; trivial) _ _ (by kernel_rfl), (congrFun out_iTableValid g).trans ?_⟩
  exact nestC_eq (fun k => rfl) 16 0

def tr_sTableValid : Tr :=
  (.evs [.call 0 [(.var 0), (.var 1), (.var 2)] none 1]
  (.ite (.ite (.not (.var 48)) (.bool true) (.cmp .neq (.var 1) (.int .i64 0)))
  (.ret [(.bool false)])
  (.evs [.call 0 [(.var 3), (.var 4), (.var 5)] none 1]
   (.ite (.ite (.not (.var 49)) (.bool true) (.cmp .neq (.var 4) (.int .i64 0)))
   (.ret [(.bool false)])
   (.evs [.call 0 [(.var 6), (.var 7), (.var 8)] none 1]
    (.ite (.ite (.not (.var 50)) (.bool true) (.cmp .neq (.var 7) (.int .i64 0)))
    (.ret [(.bool false)])
    (.evs [.call 0 [(.var 9), (.var 10), (.var 11)] none 1]
     (.ite (.ite (.not (.var 51)) (.bool true) (.cmp .neq (.var 10) (.int .i64 0)))
     (.ret [(.bool false)])
     (.evs [.call 0 [(.var 12), (.var 13), (.var 14)] none 1]
      (.ite (.ite (.not (.var 52)) (.bool true) (.cmp .neq (.var 13) (.int .i64 0)))
      (.ret [(.bool false)])
      (.evs [.call 0 [(.var 15), (.var 16), (.var 17)] none 1]
       (.ite (.ite (.not (.var 53)) (.bool true) (.cmp .neq (.var 16) (.int .i64 0)))
       (.ret [(.bool false)])
       (.evs [.call 0 [(.var 18), (.var 19), (.var 20)] none 1]
        (.ite (.ite (.not (.var 54)) (.bool true) (.cmp .neq (.var 19) (.int .i64 0)))
        (.ret [(.bool false)])
        (.evs [.call 0 [(.var 21), (.var 22), (.var 23)] none 1]
         (.ite (.ite (.not (.var 55)) (.bool true) (.cmp .neq (.var 22) (.int .i64 0)))
         (.ret [(.bool false)])
         (.evs [.call 0 [(.var 24), (.var 25), (.var 26)] none 1]
          (.ite (.ite (.not (.var 56)) (.bool true) (.cmp .neq (.var 25) (.int .i64 0)))
          (.ret [(.bool false)])
          (.evs [.call 0 [(.var 27), (.var 28), (.var 29)] none 1]
           (.ite (.ite (.not (.var 57)) (.bool true) (.cmp .neq (.var 28) (.int .i64 0)))
           (.ret [(.bool false)])
           (.evs [.call 0 [(.var 30), (.var 31), (.var 32)] none 1]
            (.ite (.ite (.not (.var 58)) (.bool true) (.cmp .neq (.var 31) (.int .i64 0)))
            (.ret [(.bool false)])
            (.evs [.call 0 [(.var 33), (.var 34), (.var 35)] none 1]
             (.ite (.ite (.not (.var 59)) (.bool true) (.cmp .neq (.var 34) (.int .i64 0)))
             (.ret [(.bool false)])
             (.evs [.call 0 [(.var 36), (.var 37), (.var 38)] none 1]
              (.ite (.ite (.not (.var 60)) (.bool true) (.cmp .neq (.var 37) (.int .i64 0)))
              (.ret [(.bool false)])
              (.evs [.call 0 [(.var 39), (.var 40), (.var 41)] none 1]
               (.ite (.ite (.not (.var 61)) (.bool true) (.cmp .neq (.var 40) (.int .i64 0)))
               (.ret [(.bool false)])
               (.evs [.call 0 [(.var 42), (.var 43), (.var 44)] none 1]
                (.ite (.ite (.not (.var 62)) (.bool true) (.cmp .neq (.var 43) (.int .i64 0)))
                (.ret [(.bool false)])
                (.evs [.call 0 [(.var 45), (.var 46), (.var 47)] none 1]
                 (.ite (.ite (.not (.var 63)) (.bool true) (.cmp .neq (.var 46) (.int .i64 0)))
                 (.ret [(.bool false)])
                 (.ret [(.bool true)])))))))))))))))))))))))))))))))))
def Fs_sTableValid : List Fun1 := [G_sFracValid]
def F_sTableValid : Fun1 := ofTree Fs_sTableValid tr_sTableValid
def G_sTableValid : Fun1 := ⟨fun _ => True, fun ins => [.bool (allB (fun k => realQ (q3 ins (3 * k))) 0 16)]⟩
theorem out_sTableValid : (fun (g : Nat → Int) => F_sTableValid.out (ivs g 0 48)) = fun g => nestC (fun k => if toB (.bool (!validQ (q3 (ivs g 0 48) (3 * k)))) = true then .bool true else .bool (i0 (ivs g 0 48) (3 * k + 1) != 0)) 0 16 := by kernel_rfl
theorem as_sTableValid (ins : List Value) (ht : TypedL (intTs 48 ++ []) ins) (_ : G_sTableValid.pre ins) : F_sTableValid.pre ins ∧ F_sTableValid.out ins = G_sTableValid.out ins := by
  obtain ⟨g, r, rfl, h1, _⟩ := ints_lit 48 0 ht
  obtain rfl := ints0 h1
  rw [List.append_nil]
  refine ⟨okT_free (by intro F hF ins; simp only [Fs_sTableValid, List.mem_singleton] at hF; rw [hF]; trivial) _ _ (by kernel_rfl), (congrFun out_sTableValid g).trans ?_⟩
  refine nestC_eq (fun k => ?_) 16 0
  simp only [toB_bool, realQ, q3]
  by_cases h : validQ (i0 (ivs g 0 48) (3 * k), i0 (ivs g 0 48) (3 * k + 1), i0 (ivs g 0 48) (3 * k + 2)) = true <;> simp [bne, h]

def tr_gotTable : Tr :=
  (.ite (.var 48)
  (.ret [(.int .i64 0), (.int .i64 0), (.int .i64 0), (.int .i64 0), (.int .i64 0), (.int .i64 0), (.int .i64 0), (.int .i64 0), (.int .i64 0), (.int .i64 0), (.int .i64 0), (.int .i64 0), (.int .i64 0), (.int .i64 0), (.int .i64 0), (.int .i64 0), (.int .i64 0), (.int .i64 0), (.int .i64 0), (.int .i64 0), (.int .i64 0), (.int .i64 0), (.int .i64 0), (.int .i64 0), (.int .i64 0), (.int .i64 0), (.int .i64 0), (.int .i64 0), (.int .i64 0), (.int .i64 0), (.int .i64 0), (.int .i64 0), (.int .i64 0), (.int .i64 0), (.int .i64 0), (.int .i64 0), (.int .i64 0), (.int .i64 0), (.int .i64 0), (.int .i64 0), (.int .i64 0), (.int .i64 0), (.int .i64 0), (.int .i64 0), (.int .i64 0), (.int .i64 0), (.int .i64 0), (.int .i64 0), (.bool false), (.var 48)])
  (.ret [(.var 0), (.var 1), (.var 2), (.var 3), (.var 4), (.var 5), (.var 6), (.var 7), (.var 8), (.var 9), (.var 10), (.var 11), (.var 12), (.var 13), (.var 14), (.var 15), (.var 16), (.var 17), (.var 18), (.var 19), (.var 20), (.var 21), (.var 22), (.var 23), (.var 24), (.var 25), (.var 26), (.var 27), (.var 28), (.var 29), (.var 30), (.var 31), (.var 32), (.var 33), (.var 34), (.var 35), (.var 36), (.var 37), (.var 38), (.var 39), (.var 40), (.var 41), (.var 42), (.var 43), (.var 44), (.var 45), (.var 46), (.var 47), (.bool true), (.var 48)]))
def Fs_gotTable : List Fun1 := []
def F_gotTable : Fun1 := ofTree Fs_gotTable tr_gotTable
def G_gotTable : Fun1 := ⟨fun _ => True, fun ins => gotV (b0 ins 48) ins 0 48 ++ [.bool (!b0 ins 48), .bool (b0 ins 48)]⟩
theorem out_gotTable : (fun (g : Nat → Int) => F_gotTable.out (ivs g 0 48 ++ [.bool true])) = fun g => G_gotTable.out (ivs g 0 48 ++ [.bool true]) := by kernel_rfl
theorem out_gotTable' : (fun (g : Nat → Int) => F_gotTable.out (ivs g 0 48 ++ [.bool false])) = fun g => G_gotTable.out (ivs g 0 48 ++ [.bool false]) := by kernel_rfl
theorem as_gotTable (ins : List Value) (ht : TypedL (intTs 48 ++ [.bool]) ins) (_ : G_gotTable.pre ins) : F_gotTable.pre ins ∧ F_gotTable.out ins = G_gotTable.out ins := by
  obtain ⟨g, r, rfl, h1, _⟩ := ints_lit 48 0 ht
  obtain ⟨b, r2, rfl, h2⟩ := bool_cons h1
  obtain rfl := ints0 h2
  cases b
  · exact ⟨trivial, congrFun out_gotTable' g⟩
  · exact ⟨trivial, congrFun out_gotTable g⟩

def tr_l3Inner : Tr :=
  (.evs [.call 0 [(.var 0), (.var 1), (.var 2), (.var 3), (.var 4), (.var 5)] none 4]
  (.evs [.call 0 [(.var 6), (.var 7), (.var 8), (.var 9), (.var 10), (.var 11)] none 4]
  (.ite (.ite (.not (.var 15)) (.bool true) (.not (.var 19)))
  (.ret [(.int .i64 0), (.int .i64 0), (.int .i64 0), (.bool false)])
  (.evs [.call 1 [(.var 12), (.var 13), (.var 14), (.var 16), (.var 17), (.var 18)] none 4]
   (.ret [(.var 20), (.var 21), (.var 22), (.var 23)])))))
def Fs_l3Inner : List Fun1 := [G_sFracTimes, G_sFracAdd]
def F_l3Inner : Fun1 := ofTree Fs_l3Inner tr_l3Inner
def G_l3Inner : Fun1 := ⟨fun _ => True, fun ins => fr4 (mixQ (q3 ins 0) (q3 ins 3) (q3 ins 6) (q3 ins 9))⟩
theorem as_l3Inner (ins : List Value) (ht : TypedL (intTs 12 ++ []) ins) (_ : G_l3Inner.pre ins) : F_l3Inner.pre ins ∧ F_l3Inner.out ins = G_l3Inner.out ins := by
  obtain ⟨g, r, rfl, h1, _⟩ := ints_lit 12 0 ht
  obtain rfl := ints0 h1
  rw [List.append_nil]
  simp only [ivs, F_l3Inner, G_l3Inner, tr_l3Inner, Fs_l3Inner, G_sFracTimes, G_sFracAdd, mixQ, q3, fr4, ofTree, okT, okE, evalT, evalE, evsIn, ev, callF, preF, hasF, needs, i0, b0, toI_int, toB_bool, List.getD_cons_zero, List.getD_cons_succ, List.cons_append, List.nil_append, List.replicate, if_true, if_false, Bool.false_eq_true, and_true, true_and, implies_true, forall_const, false_implies, cmpI, Bool.not_true, Bool.not_false, Bool.true_and, Bool.false_and, Bool.and_true, Bool.and_false, reduceIte, List.append_nil, reduceCtorEq]
  cases h1 : timesQ (g 0, g (0 + 1), g (0 + 1 + 1)) (g (0 + 1 + 1 + 1), g (0 + 1 + 1 + 1 + 1), g (0 + 1 + 1 + 1 + 1 + 1)) with
  | none => simp [zq]
  | some x =>
    cases h2 : timesQ (g (0 + 1 + 1 + 1 + 1 + 1 + 1), g (0 + 1 + 1 + 1 + 1 + 1 + 1 + 1), g (0 + 1 + 1 + 1 + 1 + 1 + 1 + 1 + 1)) (g (0 + 1 + 1 + 1 + 1 + 1 + 1 + 1 + 1 + 1), g (0 + 1 + 1 + 1 + 1 + 1 + 1 + 1 + 1 + 1 + 1), g (0 + 1 + 1 + 1 + 1 + 1 + 1 + 1 + 1 + 1 + 1 + 1)) with
    | none => simp [zq]
    | some y => simp

def tr_iTableMix : Tr :=
  (.evs [.call 0 [(.var 97), (.int .i64 1), (.int .i64 100)] none 1,
    .call 0 [(.var 96), (.int .i64 0), (.var 97)] (some (.not (.not (.var 98)))) 1]
  (.ite (.ite (.not (.var 98)) (.bool true) (.not (.var 99)))
  (.ret [(.int .i64 0), (.int .i64 0), (.int .i64 0), (.int .i64 0), (.int .i64 0), (.int .i64 0), (.int .i64 0), (.int .i64 0), (.int .i64 0), (.int .i64 0), (.int .i64 0), (.int .i64 0), (.int .i64 0), (.int .i64 0), (.int .i64 0), (.int .i64 0), (.int .i64 0), (.int .i64 0), (.int .i64 0), (.int .i64 0), (.int .i64 0), (.int .i64 0), (.int .i64 0), (.int .i64 0), (.int .i64 0), (.int .i64 0), (.int .i64 0), (.int .i64 0), (.int .i64 0), (.int .i64 0), (.int .i64 0), (.int .i64 0), (.int .i64 0), (.int .i64 0), (.int .i64 0), (.int .i64 0), (.int .i64 0), (.int .i64 0), (.int .i64 0), (.int .i64 0), (.int .i64 0), (.int .i64 0), (.int .i64 0), (.int .i64 0), (.int .i64 0), (.int .i64 0), (.int .i64 0), (.int .i64 0), (.bool false)])
  (.evs [.call 1 [(.var 0), (.var 1), (.var 2), (.var 3), (.var 4), (.var 5), (.var 6), (.var 7), (.var 8), (.var 9), (.var 10), (.var 11), (.var 12), (.var 13), (.var 14), (.var 15), (.var 16), (.var 17), (.var 18), (.var 19), (.var 20), (.var 21), (.var 22), (.var 23), (.var 24), (.var 25), (.var 26), (.var 27), (.var 28), (.var 29), (.var 30), (.var 31), (.var 32), (.var 33), (.var 34), (.var 35), (.var 36), (.var 37), (.var 38), (.var 39), (.var 40), (.var 41), (.var 42), (.var 43), (.var 44), (.var 45), (.var 46), (.var 47)] none 1,
     .call 1 [(.var 48), (.var 49), (.var 50), (.var 51), (.var 52), (.var 53), (.var 54), (.var 55), (.var 56), (.var 57), (.var 58), (.var 59), (.var 60), (.var 61), (.var 62), (.var 63), (.var 64), (.var 65), (.var 66), (.var 67), (.var 68), (.var 69), (.var 70), (.var 71), (.var 72), (.var 73), (.var 74), (.var 75), (.var 76), (.var 77), (.var 78), (.var 79), (.var 80), (.var 81), (.var 82), (.var 83), (.var 84), (.var 85), (.var 86), (.var 87), (.var 88), (.var 89), (.var 90), (.var 91), (.var 92), (.var 93), (.var 94), (.var 95)] (some (.var 100)) 1,
     .call 2 [(.ite (.var 100) (.var 101) (.bool false)), (.bool false)] none 1]
   (.evs [.call 3 [(.var 96), (.int .i64 0), (.var 97)] none 4]
   (.evs [.call 3 [(.ar .sub .i64 (.var 97) (.var 96)), (.int .i64 0), (.var 97)] none 4]
   (.evs [.call 4 [(.var 0), (.var 1), (.var 2), (.var 103), (.var 104), (.var 105), (.var 102)] none 4,
     .call 4 [(.var 48), (.var 49), (.var 50), (.var 107), (.var 108), (.var 109), (.var 114)] none 4,
     .call 5 [(.var 111), (.var 112), (.var 113), (.var 115), (.var 116), (.var 117), (.var 118)] none 4]
   (.evs [.call 4 [(.var 3), (.var 4), (.var 5), (.var 103), (.var 104), (.var 105), (.var 122)] none 4,
     .call 4 [(.var 51), (.var 52), (.var 53), (.var 107), (.var 108), (.var 109), (.var 126)] none 4,
     .call 5 [(.var 123), (.var 124), (.var 125), (.var 127), (.var 128), (.var 129), (.var 130)] none 4]
   (.evs [.call 4 [(.var 6), (.var 7), (.var 8), (.var 103), (.var 104), (.var 105), (.var 134)] none 4,
     .call 4 [(.var 54), (.var 55), (.var 56), (.var 107), (.var 108), (.var 109), (.var 138)] none 4,
     .call 5 [(.var 135), (.var 136), (.var 137), (.var 139), (.var 140), (.var 141), (.var 142)] none 4]
   (.evs [.call 4 [(.var 9), (.var 10), (.var 11), (.var 103), (.var 104), (.var 105), (.var 146)] none 4,
     .call 4 [(.var 57), (.var 58), (.var 59), (.var 107), (.var 108), (.var 109), (.var 150)] none 4,
     .call 5 [(.var 147), (.var 148), (.var 149), (.var 151), (.var 152), (.var 153), (.var 154)] none 4]
   (.evs [.call 4 [(.var 12), (.var 13), (.var 14), (.var 103), (.var 104), (.var 105), (.var 158)] none 4,
     .call 4 [(.var 60), (.var 61), (.var 62), (.var 107), (.var 108), (.var 109), (.var 162)] none 4,
     .call 5 [(.var 159), (.var 160), (.var 161), (.var 163), (.var 164), (.var 165), (.var 166)] none 4]
   (.evs [.call 4 [(.var 15), (.var 16), (.var 17), (.var 103), (.var 104), (.var 105), (.var 170)] none 4,
     .call 4 [(.var 63), (.var 64), (.var 65), (.var 107), (.var 108), (.var 109), (.var 174)] none 4,
     .call 5 [(.var 171), (.var 172), (.var 173), (.var 175), (.var 176), (.var 177), (.var 178)] none 4]
   (.evs [.call 4 [(.var 18), (.var 19), (.var 20), (.var 103), (.var 104), (.var 105), (.var 182)] none 4,
     .call 4 [(.var 66), (.var 67), (.var 68), (.var 107), (.var 108), (.var 109), (.var 186)] none 4,
     .call 5 [(.var 183), (.var 184), (.var 185), (.var 187), (.var 188), (.var 189), (.var 190)] none 4]
   (.evs [.call 4 [(.var 21), (.var 22), (.var 23), (.var 103), (.var 104), (.var 105), (.var 194)] none 4,
     .call 4 [(.var 69), (.var 70), (.var 71), (.var 107), (.var 108), (.var 109), (.var 198)] none 4,
     .call 5 [(.var 195), (.var 196), (.var 197), (.var 199), (.var 200), (.var 201), (.var 202)] none 4]
   (.evs [.call 4 [(.var 24), (.var 25), (.var 26), (.var 103), (.var 104), (.var 105), (.var 206)] none 4,
     .call 4 [(.var 72), (.var 73), (.var 74), (.var 107), (.var 108), (.var 109), (.var 210)] none 4,
     .call 5 [(.var 207), (.var 208), (.var 209), (.var 211), (.var 212), (.var 213), (.var 214)] none 4]
   (.evs [.call 4 [(.var 27), (.var 28), (.var 29), (.var 103), (.var 104), (.var 105), (.var 218)] none 4,
     .call 4 [(.var 75), (.var 76), (.var 77), (.var 107), (.var 108), (.var 109), (.var 222)] none 4,
     .call 5 [(.var 219), (.var 220), (.var 221), (.var 223), (.var 224), (.var 225), (.var 226)] none 4]
   (.evs [.call 4 [(.var 30), (.var 31), (.var 32), (.var 103), (.var 104), (.var 105), (.var 230)] none 4,
     .call 4 [(.var 78), (.var 79), (.var 80), (.var 107), (.var 108), (.var 109), (.var 234)] none 4,
     .call 5 [(.var 231), (.var 232), (.var 233), (.var 235), (.var 236), (.var 237), (.var 238)] none 4]
   (.evs [.call 4 [(.var 33), (.var 34), (.var 35), (.var 103), (.var 104), (.var 105), (.var 242)] none 4,
     .call 4 [(.var 81), (.var 82), (.var 83), (.var 107), (.var 108), (.var 109), (.var 246)] none 4,
     .call 5 [(.var 243), (.var 244), (.var 245), (.var 247), (.var 248), (.var 249), (.var 250)] none 4]
   (.evs [.call 4 [(.var 36), (.var 37), (.var 38), (.var 103), (.var 104), (.var 105), (.var 254)] none 4,
     .call 4 [(.var 84), (.var 85), (.var 86), (.var 107), (.var 108), (.var 109), (.var 258)] none 4,
     .call 5 [(.var 255), (.var 256), (.var 257), (.var 259), (.var 260), (.var 261), (.var 262)] none 4]
   (.evs [.call 4 [(.var 39), (.var 40), (.var 41), (.var 103), (.var 104), (.var 105), (.var 266)] none 4,
     .call 4 [(.var 87), (.var 88), (.var 89), (.var 107), (.var 108), (.var 109), (.var 270)] none 4,
     .call 5 [(.var 267), (.var 268), (.var 269), (.var 271), (.var 272), (.var 273), (.var 274)] none 4]
   (.evs [.call 4 [(.var 42), (.var 43), (.var 44), (.var 103), (.var 104), (.var 105), (.var 278)] none 4,
     .call 4 [(.var 90), (.var 91), (.var 92), (.var 107), (.var 108), (.var 109), (.var 282)] none 4,
     .call 5 [(.var 279), (.var 280), (.var 281), (.var 283), (.var 284), (.var 285), (.var 286)] none 4]
   (.evs [.call 4 [(.var 45), (.var 46), (.var 47), (.var 103), (.var 104), (.var 105), (.var 290)] none 4,
     .call 4 [(.var 93), (.var 94), (.var 95), (.var 107), (.var 108), (.var 109), (.var 294)] none 4,
     .call 5 [(.var 291), (.var 292), (.var 293), (.var 295), (.var 296), (.var 297), (.var 298)] none 4]
   (.evs [.call 6 [(.var 119), (.var 120), (.var 121), (.var 131), (.var 132), (.var 133), (.var 143), (.var 144), (.var 145), (.var 155), (.var 156), (.var 157), (.var 167), (.var 168), (.var 169), (.var 179), (.var 180), (.var 181), (.var 191), (.var 192), (.var 193), (.var 203), (.var 204), (.var 205), (.var 215), (.var 216), (.var 217), (.var 227), (.var 228), (.var 229), (.var 239), (.var 240), (.var 241), (.var 251), (.var 252), (.var 253), (.var 263), (.var 264), (.var 265), (.var 275), (.var 276), (.var 277), (.var 287), (.var 288), (.var 289), (.var 299), (.var 300), (.var 301), (.var 302)] none 50]
   (.ret [(.var 303), (.var 304), (.var 305), (.var 306), (.var 307), (.var 308), (.var 309), (.var 310), (.var 311), (.var 312), (.var 313), (.var 314), (.var 315), (.var 316), (.var 317), (.var 318), (.var 319), (.var 320), (.var 321), (.var 322), (.var 323), (.var 324), (.var 325), (.var 326), (.var 327), (.var 328), (.var 329), (.var 330), (.var 331), (.var 332), (.var 333), (.var 334), (.var 335), (.var 336), (.var 337), (.var 338), (.var 339), (.var 340), (.var 341), (.var 342), (.var 343), (.var 344), (.var 345), (.var 346), (.var 347), (.var 348), (.var 349), (.var 350), (.var 351)])))))))))))))))))))))))
def Fs_iTableMix : List Fun1 := [G_within, G_iTableValid, G_need, G_lowest, G_times, G_add, G_gotTable]
def F_iTableMix : Fun1 := ofTree Fs_iTableMix tr_iTableMix
def mxN (ins : List Value) : Bool := inRg (i0 ins 97) 1 100 && inRg (i0 ins 96) 0 (i0 ins 97)
def mxT (ins : List Value) : Bool := mxN ins && (tabQ (fun k => q3 ins (3 * k)) && tabQ (fun k => q3 ins (48 + 3 * k)))
def mxP (ins : List Value) : Q := (makeI (i0 ins 96) 0 (i0 ins 97)).getD zq
def mxR (ins : List Value) : Q := (makeI (IntKind.i64.wrap (i0 ins 97 - i0 ins 96)) 0 (i0 ins 97)).getD zq
def mxD (ins : List Value) (k : Nat) : Option Q := mixQ (q3 ins (3 * k)) (mxP ins) (q3 ins (48 + 3 * k)) (mxR ins)
def G_iTableMix : Fun1 := ⟨fun _ => True, fun ins => nttW 16 (mxT ins) (mxD ins)⟩
def mixL (a b : Nat → Q) (p q : Q) : List Q × Bool := cellsI (fun k s => mixI s (a k) p (b k) q) 0 16 (false || !andG (tabQ a) (tabQ b))
theorem mixL_fin (a b : Nat → Q) (p q : Q) : gotL (mixL a b p q).2 (mixL a b p q).1 ++ [.bool (!(mixL a b p q).2)] = nttV 16 (tabQ a && tabQ b) (fun k => mixQ (a k) p (b k) q) := by
  unfold mixL
  rw [andG_eq, Bool.false_or]
  exact nttI_eq (d := fun k => mixQ (a k) p (b k) q) (fun k s => mixI_spec _ _ _ _ s) 16 _
theorem out_iTableMix : (fun (g : Nat → Int) => evalT' Fs_iTableMix tr_iTableMix (ivs g 0 98)) = fun g =>
    if orG (!inRg (g 97) 1 100) (inRg (g 96) 0 (g 97)) = true then zeros 48 ++ [.bool false] else
    gotL (mixL (fun k => q3 (ivs g 0 98) (3 * k)) (fun k => q3 (ivs g 0 98) (48 + 3 * k)) ((lowI (g 96) 0 (g 97)).getD zq) ((lowI (IntKind.i64.wrap (g 97 - g 96)) 0 (g 97)).getD zq)).2
      (mixL (fun k => q3 (ivs g 0 98) (3 * k)) (fun k => q3 (ivs g 0 98) (48 + 3 * k)) ((lowI (g 96) 0 (g 97)).getD zq) ((lowI (IntKind.i64.wrap (g 97 - g 96)) 0 (g 97)).getD zq)).1 ++
      [.bool (!(mixL (fun k => q3 (ivs g 0 98) (3 * k)) (fun k => q3 (ivs g 0 98) (48 + 3 * k)) ((lowI (g 96) 0 (g 97)).getD zq) ((lowI (IntKind.i64.wrap (g 97 - g 96)) 0 (g 97)).getD zq)).2)] := by kernel_rfl
theorem mx_facts {k n : Int} (h : (inRg n 1 100 && inRg k 0 n) = true) : lowOk k 0 n ∧ lowOk (IntKind.i64.wrap (n - k)) 0 n ∧ lowI k 0 n = makeI k 0 n ∧ lowI (IntKind.i64.wrap (n - k)) 0 n = makeI (IntKind.i64.wrap (n - k)) 0 n := by
  simp only [Bool.and_eq_true, inRg_iff] at h
  obtain ⟨⟨h1, h2⟩, h3, h4⟩ := h
  rw [wrap_in (z := n - k) (by omega)]
  refine ⟨by unfold lowOk; omega, by unfold lowOk; omega, (make_small (x := 100) (by omega) (by omega) h1 (by omega)).symm, (make_small (x := 100) (by omega) (by omega) h1 (by omega)).symm⟩
theorem frees_iTableMix : Free Fs_iTableMix [true, true, true, false, true, true, true] :=
  .yes (fun _ => trivial) (.yes (fun _ => trivial) (.yes (fun _ => trivial) (.no (.yes (fun _ => trivial) (.yes (fun _ => trivial) (.yes (fun _ => trivial) .nil))))))
theorem as_iTableMix (ins : List Value) (ht : TypedL (intTs 98 ++ []) ins) (_ : G_iTableMix.pre ins) : F_iTableMix.pre ins ∧ F_iTableMix.out ins = G_iTableMix.out ins := by
  obtain ⟨g, r, rfl, h1, _⟩ := ints_lit 98 0 ht
  obtain rfl := ints0 h1
  rw [List.append_nil]
  have e1 : F_iTableMix.out (ivs g 0 98) = _ := (evalT_sel (lens := [1, 1]) (Lens.cons (fun _ => rfl) (Lens.cons (fun _ => rfl) Lens.nil)) _ _ (by kernel_rfl)).trans (congrFun out_iTableMix g)
  have e2 : G_iTableMix.out (ivs g 0 98) = nttW 16 ((inRg (g 97) 1 100 && inRg (g 96) 0 (g 97)) && (tabQ (fun k => q3 (ivs g 0 98) (3 * k)) && tabQ (fun k => q3 (ivs g 0 98) (48 + 3 * k)))) (fun k => mixQ (q3 (ivs g 0 98) (3 * k)) ((makeI (g 96) 0 (g 97)).getD zq) (q3 (ivs g 0 98) (48 + 3 * k)) ((makeI (IntKind.i64.wrap (g 97 - g 96)) 0 (g 97)).getD zq)) := rfl
  rw [e1, e2]
  show okT Fs_iTableMix tr_iTableMix _ ∧ _
  have hc : orG (!inRg (g 97) 1 100) (inRg (g 96) 0 (g 97)) = !(inRg (g 97) 1 100 && inRg (g 96) 0 (g 97)) := by rw [orG_eq]; cases inRg (g 97) 1 100 <;> cases inRg (g 96) 0 (g 97) <;> rfl
  refine ⟨?_, ?_⟩
  · unfold tr_iTableMix
    refine ⟨okE_mask frees_iTableMix _ _ (by kernel_rfl), okT_ite (fun _ => trivial) fun hn => ?_⟩
    have hL : Lens Fs_iTableMix [1, 1] := Lens.cons (fun _ => rfl) (Lens.cons (fun _ => rfl) Lens.nil)
    rw [evalE_sel hL _ _ (by kernel_rfl)] at hn
    have hn2 : orG (!inRg (g 97) 1 100) (inRg (g 96) 0 (g 97)) = false := Eq.mp (by kernel_rfl) hn
    rw [hc] at hn2
    obtain ⟨l1, l2, _, _⟩ := mx_facts (by simpa using hn2)
    refine ⟨okE_mask frees_iTableMix _ _ (by kernel_rfl), ⟨⟨Eq.mpr (?e1 : _ = lowOk (g 96) 0 (g 97)) l1, trivial⟩, ⟨⟨Eq.mpr (?e2 : _ = lowOk (IntKind.i64.wrap (g 97 - g 96)) 0 (g 97)) l2, trivial⟩, okT_mask frees_iTableMix _ _ (by kernel_rfl)⟩⟩⟩
    · kernel_rfl
    · kernel_rfl
  · rw [hc]
    cases hb : (inRg (g 97) 1 100 && inRg (g 96) 0 (g 97)) with
    | false => rw [← nttV_eq]; rfl
    | true =>
      obtain ⟨l1, l2, l3, l4⟩ := mx_facts hb
      rw [l3, l4, ← nttV_eq]
      simp only [Bool.not_true, Bool.false_eq_true, if_false, Bool.true_and]
      exact mixL_fin _ _ _ _

def tr_sTableMix : Tr :=
  (.evs [.call 0 [(.var 0), (.var 1), (.var 2), (.var 3), (.var 4), (.var 5), (.var 6), (.var 7), (.var 8), (.var 9), (.var 10), (.var 11), (.var 12), (.var 13), (.var 14), (.var 15), (.var 16), (.var 17), (.var 18), (.var 19), (.var 20), (.var 21), (.var 22), (.var 23), (.var 24), (.var 25), (.var 26), (.var 27), (.var 28), (.var 29), (.var 30), (.var 31), (.var 32), (.var 33), (.var 34), (.var 35), (.var 36), (.var 37), (.var 38), (.var 39), (.var 40), (.var 41), (.var 42), (.var 43), (.var 44), (.var 45), (.var 46), (.var 47)] none 1,
    .call 0 [(.var 48), (.var 49), (.var 50), (.var 51), (.var 52), (.var 53), (.var 54), (.var 55), (.var 56), (.var 57), (.var 58), (.var 59), (.var 60), (.var 61), (.var 62), (.var 63), (.var 64), (.var 65), (.var 66), (.var 67), (.var 68), (.var 69), (.var 70), (.var 71), (.var 72), (.var 73), (.var 74), (.var 75), (.var 76), (.var 77), (.var 78), (.var 79), (.var 80), (.var 81), (.var 82), (.var 83), (.var 84), (.var 85), (.var 86), (.var 87), (.var 88), (.var 89), (.var 90), (.var 91), (.var 92), (.var 93), (.var 94), (.var 95)] (some (.not (.not (.var 98)))) 1,
    .call 1 [(.var 97), (.int .i64 1), (.int .i64 100)] (some (.not (.ite (.not (.var 98)) (.bool true) (.not (.var 99))))) 1,
    .call 1 [(.var 96), (.int .i64 0), (.var 97)] (some (.not (.ite (.ite (.not (.var 98)) (.bool true) (.not (.var 99))) (.bool true) (.not (.var 100))))) 1]
  (.ite (.ite (.ite (.ite (.not (.var 98)) (.bool true) (.not (.var 99))) (.bool true) (.not (.var 100))) (.bool true) (.not (.var 101)))
  (.ret [(.int .i64 0), (.int .i64 0), (.int .i64 0), (.int .i64 0), (.int .i64 0), (.int .i64 0), (.int .i64 0), (.int .i64 0), (.int .i64 0), (.int .i64 0), (.int .i64 0), (.int .i64 0), (.int .i64 0), (.int .i64 0), (.int .i64 0), (.int .i64 0), (.int .i64 0), (.int .i64 0), (.int .i64 0), (.int .i64 0), (.int .i64 0), (.int .i64 0), (.int .i64 0), (.int .i64 0), (.int .i64 0), (.int .i64 0), (.int .i64 0), (.int .i64 0), (.int .i64 0), (.int .i64 0), (.int .i64 0), (.int .i64 0), (.int .i64 0), (.int .i64 0), (.int .i64 0), (.int .i64 0), (.int .i64 0), (.int .i64 0), (.int .i64 0), (.int .i64 0), (.int .i64 0), (.int .i64 0), (.int .i64 0), (.int .i64 0), (.int .i64 0), (.int .i64 0), (.int .i64 0), (.int .i64 0), (.bool false)])
  (.evs [.call 2 [(.var 96), (.int .i64 0), (.var 97)] none 4]
   (.evs [.call 2 [(.ar .sub .i64 (.var 97) (.var 96)), (.int .i64 0), (.var 97)] none 4]
   (.evs [.call 3 [(.var 0), (.var 1), (.var 2), (.var 102), (.var 103), (.var 104), (.var 48), (.var 49), (.var 50), (.var 106), (.var 107), (.var 108)] none 4]
   (.ite (.not (.var 113))
   (.ret [(.int .i64 0), (.int .i64 0), (.int .i64 0), (.int .i64 0), (.int .i64 0), (.int .i64 0), (.int .i64 0), (.int .i64 0), (.int .i64 0), (.int .i64 0), (.int .i64 0), (.int .i64 0), (.int .i64 0), (.int .i64 0), (.int .i64 0), (.int .i64 0), (.int .i64 0), (.int .i64 0), (.int .i64 0), (.int .i64 0), (.int .i64 0), (.int .i64 0), (.int .i64 0), (.int .i64 0), (.int .i64 0), (.int .i64 0), (.int .i64 0), (.int .i64 0), (.int .i64 0), (.int .i64 0), (.int .i64 0), (.int .i64 0), (.int .i64 0), (.int .i64 0), (.int .i64 0), (.int .i64 0), (.int .i64 0), (.int .i64 0), (.int .i64 0), (.int .i64 0), (.int .i64 0), (.int .i64 0), (.int .i64 0), (.int .i64 0), (.int .i64 0), (.int .i64 0), (.int .i64 0), (.int .i64 0), (.bool false)])
   (.evs [.call 3 [(.var 3), (.var 4), (.var 5), (.var 102), (.var 103), (.var 104), (.var 51), (.var 52), (.var 53), (.var 106), (.var 107), (.var 108)] none 4]
    (.ite (.not (.var 117))
    (.ret [(.int .i64 0), (.int .i64 0), (.int .i64 0), (.int .i64 0), (.int .i64 0), (.int .i64 0), (.int .i64 0), (.int .i64 0), (.int .i64 0), (.int .i64 0), (.int .i64 0), (.int .i64 0), (.int .i64 0), (.int .i64 0), (.int .i64 0), (.int .i64 0), (.int .i64 0), (.int .i64 0), (.int .i64 0), (.int .i64 0), (.int .i64 0), (.int .i64 0), (.int .i64 0), (.int .i64 0), (.int .i64 0), (.int .i64 0), (.int .i64 0), (.int .i64 0), (.int .i64 0), (.int .i64 0), (.int .i64 0), (.int .i64 0), (.int .i64 0), (.int .i64 0), (.int .i64 0), (.int .i64 0), (.int .i64 0), (.int .i64 0), (.int .i64 0), (.int .i64 0), (.int .i64 0), (.int .i64 0), (.int .i64 0), (.int .i64 0), (.int .i64 0), (.int .i64 0), (.int .i64 0), (.int .i64 0), (.bool false)])
    (.evs [.call 3 [(.var 6), (.var 7), (.var 8), (.var 102), (.var 103), (.var 104), (.var 54), (.var 55), (.var 56), (.var 106), (.var 107), (.var 108)] none 4]
     (.ite (.not (.var 121))
     (.ret [(.int .i64 0), (.int .i64 0), (.int .i64 0), (.int .i64 0), (.int .i64 0), (.int .i64 0), (.int .i64 0), (.int .i64 0), (.int .i64 0), (.int .i64 0), (.int .i64 0), (.int .i64 0), (.int .i64 0), (.int .i64 0), (.int .i64 0), (.int .i64 0), (.int .i64 0), (.int .i64 0), (.int .i64 0), (.int .i64 0), (.int .i64 0), (.int .i64 0), (.int .i64 0), (.int .i64 0), (.int .i64 0), (.int .i64 0), (.int .i64 0), (.int .i64 0), (.int .i64 0), (.int .i64 0), (.int .i64 0), (.int .i64 0), (.int .i64 0), (.int .i64 0), (.int .i64 0), (.int .i64 0), (.int .i64 0), (.int .i64 0), (.int .i64 0), (.int .i64 0), (.int .i64 0), (.int .i64 0), (.int .i64 0), (.int .i64 0), (.int .i64 0), (.int .i64 0), (.int .i64 0), (.int .i64 0), (.bool false)])
     (.evs [.call 3 [(.var 9), (.var 10), (.var 11), (.var 102), (.var 103), (.var 104), (.var 57), (.var 58), (.var 59), (.var 106), (.var 107), (.var 108)] none 4]
      (.ite (.not (.var 125))
      (.ret [(.int .i64 0), (.int .i64 0), (.int .i64 0), (.int .i64 0), (.int .i64 0), (.int .i64 0), (.int .i64 0), (.int .i64 0), (.int .i64 0), (.int .i64 0), (.int .i64 0), (.int .i64 0), (.int .i64 0), (.int .i64 0), (.int .i64 0), (.int .i64 0), (.int .i64 0), (.int .i64 0), (.int .i64 0), (.int .i64 0), (.int .i64 0), (.int .i64 0), (.int .i64 0), (.int .i64 0), (.int .i64 0), (.int .i64 0), (.int .i64 0), (.int .i64 0), (.int .i64 0), (.int .i64 0), (.int .i64 0), (.int .i64 0), (.int .i64 0), (.int .i64 0), (.int .i64 0), (.int .i64 0), (.int .i64 0), (.int .i64 0), (.int .i64 0), (.int .i64 0), (.int .i64 0), (.int .i64 0), (.int .i64 0), (.int .i64 0), (.int .i64 0), (.int .i64 0), (.int .i64 0), (.int .i64 0), (.bool false)])
      (.evs [.call 3 [(.var 12), (.var 13), (.var 14), (.var 102), (.var 103), (.var 104), (.var 60), (.var 61), (.var 62), (.var 106), (.var 107), (.var 108)] none 4]
       (.ite (.not (.var 129))
       (.ret [(.int .i64 0), (.int .i64 0), (.int .i64 0), (.int .i64 0), (.int .i64 0), (.int .i64 0), (.int .i64 0), (.int .i64 0), (.int .i64 0), (.int .i64 0), (.int .i64 0), (.int .i64 0), (.int .i64 0), (.int .i64 0), (.int .i64 0), (.int .i64 0), (.int .i64 0), (.int .i64 0), (.int .i64 0), (.int .i64 0), (.int .i64 0), (.int .i64 0), (.int .i64 0), (.int .i64 0), (.int .i64 0), (.int .i64 0), (.int .i64 0), (.int .i64 0), (.int .i64 0), (.int .i64 0), (.int .i64 0), (.int .i64 0), (.int .i64 0), (.int .i64 0), (.int .i64 0), (.int .i64 0), (.int .i64 0), (.int .i64 0), (.int .i64 0), (.int .i64 0), (.int .i64 0), (.int .i64 0), (.int .i64 0), (.int .i64 0), (.int .i64 0), (.int .i64 0), (.int .i64 0), (.int .i64 0), (.bool false)])
       (.evs [.call 3 [(.var 15), (.var 16), (.var 17), (.var 102), (.var 103), (.var 104), (.var 63), (.var 64), (.var 65), (.var 106), (.var 107), (.var 108)] none 4]
        (.ite (.not (.var 133))
        (.ret [(.int .i64 0), (.int .i64 0), (.int .i64 0), (.int .i64 0), (.int .i64 0), (.int .i64 0), (.int .i64 0), (.int .i64 0), (.int .i64 0), (.int .i64 0), (.int .i64 0), (.int .i64 0), (.int .i64 0), (.int .i64 0), (.int .i64 0), (.int .i64 0), (.int .i64 0), (.int .i64 0), (.int .i64 0), (.int .i64 0), (.int .i64 0), (.int .i64 0), (.int .i64 0), (.int .i64 0), (.int .i64 0), (.int .i64 0), (.int .i64 0), (.int .i64 0), (.int .i64 0), (.int .i64 0), (.int .i64 0), (.int .i64 0), (.int .i64 0), (.int .i64 0), (.int .i64 0), (.int .i64 0), (.int .i64 0), (.int .i64 0), (.int .i64 0), (.int .i64 0), (.int .i64 0), (.int .i64 0), (.int .i64 0), (.int .i64 0), (.int .i64 0), (.int .i64 0), (.int .i64 0), (.int .i64 0), (.bool false)])
        (.evs [.call 3 [(.var 18), (.var 19), (.var 20), (.var 102), (.var 103), (.var 104), (.var 66), (.var 67), (.var 68), (.var 106), (.var 107), (.var 108)] none 4]
         (.ite (.not (.var 137))
         (.ret [(.int .i64 0), (.int .i64 0), (.int .i64 0), (.int .i64 0), (.int .i64 0), (.int .i64 0), (.int .i64 0), (.int .i64 0), (.int .i64 0), (.int .i64 0), (.int .i64 0), (.int .i64 0), (.int .i64 0), (.int .i64 0), (.int .i64 0), (.int .i64 0), (.int .i64 0), (.int .i64 0), (.int .i64 0), (.int .i64 0), (.int .i64 0), (.int .i64 0), (.int .i64 0), (.int .i64 0), (.int .i64 0), (.int .i64 0), (.int .i64 0), (.int .i64 0), (.int .i64 0), (.int .i64 0), (.int .i64 0), (.int .i64 0), (.int .i64 0), (.int .i64 0), (.int .i64 0), (.int .i64 0), (.int .i64 0), (.int .i64 0), (.int .i64 0), (.int .i64 0), (.int .i64 0), (.int .i64 0), (.int .i64 0), (.int .i64 0), (.int .i64 0), (.int .i64 0), (.int .i64 0), (.int .i64 0), (.bool false)])
         (.evs [.call 3 [(.var 21), (.var 22), (.var 23), (.var 102), (.var 103), (.var 104), (.var 69), (.var 70), (.var 71), (.var 106), (.var 107), (.var 108)] none 4]
          (.ite (.not (.var 141))
          (.ret [(.int .i64 0), (.int .i64 0), (.int .i64 0), (.int .i64 0), (.int .i64 0), (.int .i64 0), (.int .i64 0), (.int .i64 0), (.int .i64 0), (.int .i64 0), (.int .i64 0), (.int .i64 0), (.int .i64 0), (.int .i64 0), (.int .i64 0), (.int .i64 0), (.int .i64 0), (.int .i64 0), (.int .i64 0), (.int .i64 0), (.int .i64 0), (.int .i64 0), (.int .i64 0), (.int .i64 0), (.int .i64 0), (.int .i64 0), (.int .i64 0), (.int .i64 0), (.int .i64 0), (.int .i64 0), (.int .i64 0), (.int .i64 0), (.int .i64 0), (.int .i64 0), (.int .i64 0), (.int .i64 0), (.int .i64 0), (.int .i64 0), (.int .i64 0), (.int .i64 0), (.int .i64 0), (.int .i64 0), (.int .i64 0), (.int .i64 0), (.int .i64 0), (.int .i64 0), (.int .i64 0), (.int .i64 0), (.bool false)])
          (.evs [.call 3 [(.var 24), (.var 25), (.var 26), (.var 102), (.var 103), (.var 104), (.var 72), (.var 73), (.var 74), (.var 106), (.var 107), (.var 108)] none 4]
           (.ite (.not (.var 145))
           (.ret [(.int .i64 0), (.int .i64 0), (.int .i64 0), (.int .i64 0), (.int .i64 0), (.int .i64 0), (.int .i64 0), (.int .i64 0), (.int .i64 0), (.int .i64 0), (.int .i64 0), (.int .i64 0), (.int .i64 0), (.int .i64 0), (.int .i64 0), (.int .i64 0), (.int .i64 0), (.int .i64 0), (.int .i64 0), (.int .i64 0), (.int .i64 0), (.int .i64 0), (.int .i64 0), (.int .i64 0), (.int .i64 0), (.int .i64 0), (.int .i64 0), (.int .i64 0), (.int .i64 0), (.int .i64 0), (.int .i64 0), (.int .i64 0), (.int .i64 0), (.int .i64 0), (.int .i64 0), (.int .i64 0), (.int .i64 0), (.int .i64 0), (.int .i64 0), (.int .i64 0), (.int .i64 0), (.int .i64 0), (.int .i64 0), (.int .i64 0), (.int .i64 0), (.int .i64 0), (.int .i64 0), (.int .i64 0), (.bool false)])
           (.evs [.call 3 [(.var 27), (.var 28), (.var 29), (.var 102), (.var 103), (.var 104), (.var 75), (.var 76), (.var 77), (.var 106), (.var 107), (.var 108)] none 4]
            (.ite (.not (.var 149))
            (.ret [(.int .i64 0), (.int .i64 0), (.int .i64 0), (.int .i64 0), (.int .i64 0), (.int .i64 0), (.int .i64 0), (.int .i64 0), (.int .i64 0), (.int .i64 0), (.int .i64 0), (.int .i64 0), (.int .i64 0), (.int .i64 0), (.int .i64 0), (.int .i64 0), (.int .i64 0), (.int .i64 0), (.int .i64 0), (.int .i64 0), (.int .i64 0), (.int .i64 0), (.int .i64 0), (.int .i64 0), (.int .i64 0), (.int .i64 0), (.int .i64 0), (.int .i64 0), (.int .i64 0), (.int .i64 0), (.int .i64 0), (.int .i64 0), (.int .i64 0), (.int .i64 0), (.int .i64 0), (.int .i64 0), (.int .i64 0), (.int .i64 0), (.int .i64 0), (.int .i64 0), (.int .i64 0), (.int .i64 0), (.int .i64 0), (.int .i64 0), (.int .i64 0), (.int .i64 0), (.int .i64 0), (.int .i64 0), (.bool false)])
            (.evs [.call 3 [(.var 30), (.var 31), (.var 32), (.var 102), (.var 103), (.var 104), (.var 78), (.var 79), (.var 80), (.var 106), (.var 107), (.var 108)] none 4]
             (.ite (.not (.var 153))
             (.ret [(.int .i64 0), (.int .i64 0), (.int .i64 0), (.int .i64 0), (.int .i64 0), (.int .i64 0), (.int .i64 0), (.int .i64 0), (.int .i64 0), (.int .i64 0), (.int .i64 0), (.int .i64 0), (.int .i64 0), (.int .i64 0), (.int .i64 0), (.int .i64 0), (.int .i64 0), (.int .i64 0), (.int .i64 0), (.int .i64 0), (.int .i64 0), (.int .i64 0), (.int .i64 0), (.int .i64 0), (.int .i64 0), (.int .i64 0), (.int .i64 0), (.int .i64 0), (.int .i64 0), (.int .i64 0), (.int .i64 0), (.int .i64 0), (.int .i64 0), (.int .i64 0), (.int .i64 0), (.int .i64 0), (.int .i64 0), (.int .i64 0), (.int .i64 0), (.int .i64 0), (.int .i64 0), (.int .i64 0), (.int .i64 0), (.int .i64 0), (.int .i64 0), (.int .i64 0), (.int .i64 0), (.int .i64 0), (.bool false)])
             (.evs [.call 3 [(.var 33), (.var 34), (.var 35), (.var 102), (.var 103), (.var 104), (.var 81), (.var 82), (.var 83), (.var 106), (.var 107), (.var 108)] none 4]
              (.ite (.not (.var 157))
              (.ret [(.int .i64 0), (.int .i64 0), (.int .i64 0), (.int .i64 0), (.int .i64 0), (.int .i64 0), (.int .i64 0), (.int .i64 0), (.int .i64 0), (.int .i64 0), (.int .i64 0), (.int .i64 0), (.int .i64 0), (.int .i64 0), (.int .i64 0), (.int .i64 0), (.int .i64 0), (.int .i64 0), (.int .i64 0), (.int .i64 0), (.int .i64 0), (.int .i64 0), (.int .i64 0), (.int .i64 0), (.int .i64 0), (.int .i64 0), (.int .i64 0), (.int .i64 0), (.int .i64 0), (.int .i64 0), (.int .i64 0), (.int .i64 0), (.int .i64 0), (.int .i64 0), (.int .i64 0), (.int .i64 0), (.int .i64 0), (.int .i64 0), (.int .i64 0), (.int .i64 0), (.int .i64 0), (.int .i64 0), (.int .i64 0), (.int .i64 0), (.int .i64 0), (.int .i64 0), (.int .i64 0), (.int .i64 0), (.bool false)])
              (.evs [.call 3 [(.var 36), (.var 37), (.var 38), (.var 102), (.var 103), (.var 104), (.var 84), (.var 85), (.var 86), (.var 106), (.var 107), (.var 108)] none 4]
               (.ite (.not (.var 161))
               (.ret [(.int .i64 0), (.int .i64 0), (.int .i64 0), (.int .i64 0), (.int .i64 0), (.int .i64 0), (.int .i64 0), (.int .i64 0), (.int .i64 0), (.int .i64 0), (.int .i64 0), (.int .i64 0), (.int .i64 0), (.int .i64 0), (.int .i64 0), (.int .i64 0), (.int .i64 0), (.int .i64 0), (.int .i64 0), (.int .i64 0), (.int .i64 0), (.int .i64 0), (.int .i64 0), (.int .i64 0), (.int .i64 0), (.int .i64 0), (.int .i64 0), (.int .i64 0), (.int .i64 0), (.int .i64 0), (.int .i64 0), (.int .i64 0), (.int .i64 0), (.int .i64 0), (.int .i64 0), (.int .i64 0), (.int .i64 0), (.int .i64 0), (.int .i64 0), (.int .i64 0), (.int .i64 0), (.int .i64 0), (.int .i64 0), (.int .i64 0), (.int .i64 0), (.int .i64 0), (.int .i64 0), (.int .i64 0), (.bool false)])
               (.evs [.call 3 [(.var 39), (.var 40), (.var 41), (.var 102), (.var 103), (.var 104), (.var 87), (.var 88), (.var 89), (.var 106), (.var 107), (.var 108)] none 4]
                (.ite (.not (.var 165))
                (.ret [(.int .i64 0), (.int .i64 0), (.int .i64 0), (.int .i64 0), (.int .i64 0), (.int .i64 0), (.int .i64 0), (.int .i64 0), (.int .i64 0), (.int .i64 0), (.int .i64 0), (.int .i64 0), (.int .i64 0), (.int .i64 0), (.int .i64 0), (.int .i64 0), (.int .i64 0), (.int .i64 0), (.int .i64 0), (.int .i64 0), (.int .i64 0), (.int .i64 0), (.int .i64 0), (.int .i64 0), (.int .i64 0), (.int .i64 0), (.int .i64 0), (.int .i64 0), (.int .i64 0), (.int .i64 0), (.int .i64 0), (.int .i64 0), (.int .i64 0), (.int .i64 0), (.int .i64 0), (.int .i64 0), (.int .i64 0), (.int .i64 0), (.int .i64 0), (.int .i64 0), (.int .i64 0), (.int .i64 0), (.int .i64 0), (.int .i64 0), (.int .i64 0), (.int .i64 0), (.int .i64 0), (.int .i64 0), (.bool false)])
                (.evs [.call 3 [(.var 42), (.var 43), (.var 44), (.var 102), (.var 103), (.var 104), (.var 90), (.var 91), (.var 92), (.var 106), (.var 107), (.var 108)] none 4]
                 (.ite (.not (.var 169))
                 (.ret [(.int .i64 0), (.int .i64 0), (.int .i64 0), (.int .i64 0), (.int .i64 0), (.int .i64 0), (.int .i64 0), (.int .i64 0), (.int .i64 0), (.int .i64 0), (.int .i64 0), (.int .i64 0), (.int .i64 0), (.int .i64 0), (.int .i64 0), (.int .i64 0), (.int .i64 0), (.int .i64 0), (.int .i64 0), (.int .i64 0), (.int .i64 0), (.int .i64 0), (.int .i64 0), (.int .i64 0), (.int .i64 0), (.int .i64 0), (.int .i64 0), (.int .i64 0), (.int .i64 0), (.int .i64 0), (.int .i64 0), (.int .i64 0), (.int .i64 0), (.int .i64 0), (.int .i64 0), (.int .i64 0), (.int .i64 0), (.int .i64 0), (.int .i64 0), (.int .i64 0), (.int .i64 0), (.int .i64 0), (.int .i64 0), (.int .i64 0), (.int .i64 0), (.int .i64 0), (.int .i64 0), (.int .i64 0), (.bool false)])
                 (.evs [.call 3 [(.var 45), (.var 46), (.var 47), (.var 102), (.var 103), (.var 104), (.var 93), (.var 94), (.var 95), (.var 106), (.var 107), (.var 108)] none 4]
                  (.ite (.not (.var 173))
                  (.ret [(.int .i64 0), (.int .i64 0), (.int .i64 0), (.int .i64 0), (.int .i64 0), (.int .i64 0), (.int .i64 0), (.int .i64 0), (.int .i64 0), (.int .i64 0), (.int .i64 0), (.int .i64 0), (.int .i64 0), (.int .i64 0), (.int .i64 0), (.int .i64 0), (.int .i64 0), (.int .i64 0), (.int .i64 0), (.int .i64 0), (.int .i64 0), (.int .i64 0), (.int .i64 0), (.int .i64 0), (.int .i64 0), (.int .i64 0), (.int .i64 0), (.int .i64 0), (.int .i64 0), (.int .i64 0), (.int .i64 0), (.int .i64 0), (.int .i64 0), (.int .i64 0), (.int .i64 0), (.int .i64 0), (.int .i64 0), (.int .i64 0), (.int .i64 0), (.int .i64 0), (.int .i64 0), (.int .i64 0), (.int .i64 0), (.int .i64 0), (.int .i64 0), (.int .i64 0), (.int .i64 0), (.int .i64 0), (.bool false)])
                  (.ret [(.var 110), (.var 111), (.var 112), (.var 114), (.var 115), (.var 116), (.var 118), (.var 119), (.var 120), (.var 122), (.var 123), (.var 124), (.var 126), (.var 127), (.var 128), (.var 130), (.var 131), (.var 132), (.var 134), (.var 135), (.var 136), (.var 138), (.var 139), (.var 140), (.var 142), (.var 143), (.var 144), (.var 146), (.var 147), (.var 148), (.var 150), (.var 151), (.var 152), (.var 154), (.var 155), (.var 156), (.var 158), (.var 159), (.var 160), (.var 162), (.var 163), (.var 164), (.var 166), (.var 167), (.var 168), (.var 170), (.var 171), (.var 172), (.bool true)])))))))))))))))))))))))))))))))))))))
def Fs_sTableMix : List Fun1 := [G_sTableValid, G_l6In, G_sFracMake, G_l3Inner]
def F_sTableMix : Fun1 := ofTree Fs_sTableMix tr_sTableMix
def G_sTableMix : Fun1 := ⟨fun _ => True, fun ins => nttW 16 (mxT ins) (mxD ins)⟩
theorem out_sTableMix : (fun (g : Nat → Int) => evalT' Fs_sTableMix tr_sTableMix (ivs g 0 98)) = fun g =>
    if orG (orG (orG (!tabQ fun k => q3 (ivs g 0 98) (3 * k)) (tabQ fun k => q3 (ivs g 0 98) (48 + 3 * k))) (inRg (g 97) 1 100)) (inRg (g 96) 0 (g 97)) = true then zeros 48 ++ [.bool false] else
    nestM 16 (fun k => mixQ (q3 (ivs g 0 98) (3 * k)) ((makeI (g 96) 0 (g 97)).getD zq) (q3 (ivs g 0 98) (48 + 3 * k)) ((makeI (IntKind.i64.wrap (g 97 - g 96)) 0 (g 97)).getD zq)) 16 0 [] := by kernel_rfl
theorem as_sTableMix (ins : List Value) (ht : TypedL (intTs 98 ++ []) ins) (_ : G_sTableMix.pre ins) : F_sTableMix.pre ins ∧ F_sTableMix.out ins = G_sTableMix.out ins := by
  obtain ⟨g, r, rfl, h1, _⟩ := ints_lit 98 0 ht
  obtain rfl := ints0 h1
  rw [List.append_nil]
  refine ⟨okT_free (by intro F hF ins; simp only [Fs_sTableMix, List.mem_cons, List.not_mem_nil, or_false] at hF; rcases hF with rfl | rfl | rfl | rfl <;> trivial) _ _ (by kernel_rfl), (evalT_sel (lens := [1, 1]) (Lens.cons (fun _ => rfl) (Lens.cons (fun _ => rfl) Lens.nil)) _ _ (by kernel_rfl)).trans ((congrFun out_sTableMix g).trans ?_)⟩
  have e2 : G_sTableMix.out (ivs g 0 98) = nttW 16 ((inRg (g 97) 1 100 && inRg (g 96) 0 (g 97)) && (tabQ (fun k => q3 (ivs g 0 98) (3 * k)) && tabQ (fun k => q3 (ivs g 0 98) (48 + 3 * k)))) (fun k => mixQ (q3 (ivs g 0 98) (3 * k)) ((makeI (g 96) 0 (g 97)).getD zq) (q3 (ivs g 0 98) (48 + 3 * k)) ((makeI (IntKind.i64.wrap (g 97 - g 96)) 0 (g 97)).getD zq)) := rfl
  rw [e2, orG_eq, orG_eq, orG_eq, nestM_eq, ← nttV_eq]
  generalize tabQ (fun k => q3 (ivs g 0 98) (3 * k)) = x
  generalize tabQ (fun k => q3 (ivs g 0 98) (48 + 3 * k)) = y
  generalize inRg (g 97) 1 100 = z
  generalize inRg (g 96) 0 (g 97) = u
  cases x <;> cases y <;> cases z <;> cases u <;> rfl

def tr_FnExactTableMix : Tr :=
  (.evs [.call 0 [(.var 0), (.var 1), (.var 2), (.var 3), (.var 4), (.var 5), (.var 6), (.var 7), (.var 8), (.var 9), (.var 10), (.var 11), (.var 12), (.var 13), (.var 14), (.var 15), (.var 16), (.var 17), (.var 18), (.var 19), (.var 20), (.var 21), (.var 22), (.var 23), (.var 24), (.var 25), (.var 26), (.var 27), (.var 28), (.var 29), (.var 30), (.var 31), (.var 32), (.var 33), (.var 34), (.var 35), (.var 36), (.var 37), (.var 38), (.var 39), (.var 40), (.var 41), (.var 42), (.var 43), (.var 44), (.var 45), (.var 46), (.var 47)] none 48,
    .call 0 [(.var 48), (.var 49), (.var 50), (.var 51), (.var 52), (.var 53), (.var 54), (.var 55), (.var 56), (.var 57), (.var 58), (.var 59), (.var 60), (.var 61), (.var 62), (.var 63), (.var 64), (.var 65), (.var 66), (.var 67), (.var 68), (.var 69), (.var 70), (.var 71), (.var 72), (.var 73), (.var 74), (.var 75), (.var 76), (.var 77), (.var 78), (.var 79), (.var 80), (.var 81), (.var 82), (.var 83), (.var 84), (.var 85), (.var 86), (.var 87), (.var 88), (.var 89), (.var 90), (.var 91), (.var 92), (.var 93), (.var 94), (.var 95)] none 48,
    .call 1 [(.var 98), (.var 99), (.var 100), (.var 101), (.var 102), (.var 103), (.var 104), (.var 105), (.var 106), (.var 107), (.var 108), (.var 109), (.var 110), (.var 111), (.var 112), (.var 113), (.var 114), (.var 115), (.var 116), (.var 117), (.var 118), (.var 119), (.var 120), (.var 121), (.var 122), (.var 123), (.var 124), (.var 125), (.var 126), (.var 127), (.var 128), (.var 129), (.var 130), (.var 131), (.var 132), (.var 133), (.var 134), (.var 135), (.var 136), (.var 137), (.var 138), (.var 139), (.var 140), (.var 141), (.var 142), (.var 143), (.var 144), (.var 145), (.var 146), (.var 147), (.var 148), (.var 149), (.var 150), (.var 151), (.var 152), (.var 153), (.var 154), (.var 155), (.var 156), (.var 157), (.var 158), (.var 159), (.var 160), (.var 161), (.var 162), (.var 163), (.var 164), (.var 165), (.var 166), (.var 167), (.var 168), (.var 169), (.var 170), (.var 171), (.var 172), (.var 173), (.var 174), (.var 175), (.var 176), (.var 177), (.var 178), (.var 179), (.var 180), (.var 181), (.var 182), (.var 183), (.var 184), (.var 185), (.var 186), (.var 187), (.var 188), (.var 189), (.var 190), (.var 191), (.var 192), (.var 193), (.var 96), (.var 97)] none 49]
  (.evs [.call 0 [(.var 0), (.var 1), (.var 2), (.var 3), (.var 4), (.var 5), (.var 6), (.var 7), (.var 8), (.var 9), (.var 10), (.var 11), (.var 12), (.var 13), (.var 14), (.var 15), (.var 16), (.var 17), (.var 18), (.var 19), (.var 20), (.var 21), (.var 22), (.var 23), (.var 24), (.var 25), (.var 26), (.var 27), (.var 28), (.var 29), (.var 30), (.var 31), (.var 32), (.var 33), (.var 34), (.var 35), (.var 36), (.var 37), (.var 38), (.var 39), (.var 40), (.var 41), (.var 42), (.var 43), (.var 44), (.var 45), (.var 46), (.var 47)] none 48,
    .call 0 [(.var 48), (.var 49), (.var 50), (.var 51), (.var 52), (.var 53), (.var 54), (.var 55), (.var 56), (.var 57), (.var 58), (.var 59), (.var 60), (.var 61), (.var 62), (.var 63), (.var 64), (.var 65), (.var 66), (.var 67), (.var 68), (.var 69), (.var 70), (.var 71), (.var 72), (.var 73), (.var 74), (.var 75), (.var 76), (.var 77), (.var 78), (.var 79), (.var 80), (.var 81), (.var 82), (.var 83), (.var 84), (.var 85), (.var 86), (.var 87), (.var 88), (.var 89), (.var 90), (.var 91), (.var 92), (.var 93), (.var 94), (.var 95)] none 48,
    .call 2 [(.var 243), (.var 244), (.var 245), (.var 246), (.var 247), (.var 248), (.var 249), (.var 250), (.var 251), (.var 252), (.var 253), (.var 254), (.var 255), (.var 256), (.var 257), (.var 258), (.var 259), (.var 260), (.var 261), (.var 262), (.var 263), (.var 264), (.var 265), (.var 266), (.var 267), (.var 268), (.var 269), (.var 270), (.var 271), (.var 272), (.var 273), (.var 274), (.var 275), (.var 276), (.var 277), (.var 278), (.var 279), (.var 280), (.var 281), (.var 282), (.var 283), (.var 284), (.var 285), (.var 286), (.var 287), (.var 288), (.var 289), (.var 290), (.var 291), (.var 292), (.var 293), (.var 294), (.var 295), (.var 296), (.var 297), (.var 298), (.var 299), (.var 300), (.var 301), (.var 302), (.var 303), (.var 304), (.var 305), (.var 306), (.var 307), (.var 308), (.var 309), (.var 310), (.var 311), (.var 312), (.var 313), (.var 314), (.var 315), (.var 316), (.var 317), (.var 318), (.var 319), (.var 320), (.var 321), (.var 322), (.var 323), (.var 324), (.var 325), (.var 326), (.var 327), (.var 328), (.var 329), (.var 330), (.var 331), (.var 332), (.var 333), (.var 334), (.var 335), (.var 336), (.var 337), (.var 338), (.var 96), (.var 97)] none 49]
  (.evs [.call 3 [(.var 339), (.var 340), (.var 341), (.var 342), (.var 343), (.var 344), (.var 345), (.var 346), (.var 347), (.var 348), (.var 349), (.var 350), (.var 351), (.var 352), (.var 353), (.var 354), (.var 355), (.var 356), (.var 357), (.var 358), (.var 359), (.var 360), (.var 361), (.var 362), (.var 363), (.var 364), (.var 365), (.var 366), (.var 367), (.var 368), (.var 369), (.var 370), (.var 371), (.var 372), (.var 373), (.var 374), (.var 375), (.var 376), (.var 377), (.var 378), (.var 379), (.var 380), (.var 381), (.var 382), (.var 383), (.var 384), (.var 385), (.var 386), (.var 194), (.var 195), (.var 196), (.var 197), (.var 198), (.var 199), (.var 200), (.var 201), (.var 202), (.var 203), (.var 204), (.var 205), (.var 206), (.var 207), (.var 208), (.var 209), (.var 210), (.var 211), (.var 212), (.var 213), (.var 214), (.var 215), (.var 216), (.var 217), (.var 218), (.var 219), (.var 220), (.var 221), (.var 222), (.var 223), (.var 224), (.var 225), (.var 226), (.var 227), (.var 228), (.var 229), (.var 230), (.var 231), (.var 232), (.var 233), (.var 234), (.var 235), (.var 236), (.var 237), (.var 238), (.var 239), (.var 240), (.var 241)] none 1]
  (.ite (.ite (.not (.var 388)) (.bool true) (.not (.eqb (.var 387) (.var 242))))
  (.ret [(.bool false)])
  (.ret [(.bool true)])))))
def Fs_FnExactTableMix : List Fun1 := [G_toTable, G_sTableMix, G_iTableMix, G_eqTable]
def F_FnExactTableMix : Fun1 := ofTree Fs_FnExactTableMix tr_FnExactTableMix
def tmX (g : Nat → Int) : List Value := nttW 16 (mxT (ivs g 0 98)) (mxD (ivs g 0 98))
theorem out_FnExactTableMix : (fun (g : Nat → Int) => F_FnExactTableMix.out (ivs g 0 98)) = fun g =>
    if toB (if toB (.bool (!allB (fun k => eqQ (q3 (tmX g) (3 * k)) (q3 (tmX g) (3 * k))) 0 16)) = true then Value.bool true else .bool (!(b0 (tmX g) 48 == b0 (tmX g) 48))) = true then [Value.bool false] else [.bool true] := by kernel_rfl
theorem law_FnExactTableMix (ins : List Value) (ht : TypedL (intTs 98 ++ []) ins) : F_FnExactTableMix.pre ins ∧ F_FnExactTableMix.out ins = [.bool true] := by
  obtain ⟨g, r, rfl, h1, _⟩ := ints_lit 98 0 ht
  obtain rfl := ints0 h1
  rw [List.append_nil]
  refine ⟨okT_free (by intro F hF ins; simp only [Fs_FnExactTableMix, List.mem_cons, List.not_mem_nil, or_false] at hF; rcases hF with rfl | rfl | rfl | rfl <;> trivial) _ _ (by kernel_rfl), (congrFun out_FnExactTableMix g).trans ?_⟩
  generalize tmX g = X
  rw [allB_true (fun k => eqQ_self _)]
  simp

end Go.Sx

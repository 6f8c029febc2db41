/- What the functions reckon, by their trees. -/
import Derived.Test.YtacmlnomehkjcaaEd
namespace Go.Sx
open Go
set_option maxRecDepth 100000
set_option linter.unusedSimpArgs false
set_option linter.unusedVariables false

def tr_size : Tr :=
  (.ret [(.mx false .i64 (.var 0) (.ar .sub .i64 (.int .i64 0) (.var 0)))])
def Fs_size : List Fun1 := []
def F_size : Fun1 := ofTree Fs_size tr_size

def tr_within : Tr :=
  (.ret [(.ite (.cmp .geq (.var 0) (.var 1)) (.cmp .leq (.var 0) (.var 2)) (.bool false))])
def Fs_within : List Fun1 := []
def F_within : Fun1 := ofTree Fs_within tr_within
def G_within : Fun1 := ⟨fun _ => True, fun ins => [.bool (inRg (i0 ins 0) (i0 ins 1) (i0 ins 2))]⟩
theorem as_within (ins : List Value) (ht : TypedL [.int .i64, .int .i64, .int .i64] ins) (_ : G_within.pre ins) : F_within.pre ins ∧ F_within.out ins = G_within.out ins := by
  obtain ⟨a, b, c, rfl, _, _, _⟩ := ints3 ht
  refine ⟨trivial, ?_⟩
  show [if (decide (a ≥ b)) = true then Value.bool (decide (a ≤ c)) else Value.bool false] = [Value.bool (decide (b ≤ a) && decide (a ≤ c))]
  by_cases h : b ≤ a <;> simp [h]

def tr_l6In : Tr :=
  (.ret [(.ite (.cmp .geq (.var 0) (.var 1)) (.cmp .leq (.var 0) (.var 2)) (.bool false))])
def Fs_l6In : List Fun1 := []
def F_l6In : Fun1 := ofTree Fs_l6In tr_l6In
def G_l6In : Fun1 := ⟨fun _ => True, fun ins => [.bool (inRg (i0 ins 0) (i0 ins 1) (i0 ins 2))]⟩
theorem as_l6In (ins : List Value) (ht : TypedL [.int .i64, .int .i64, .int .i64] ins) (_ : G_l6In.pre ins) : F_l6In.pre ins ∧ F_l6In.out ins = G_l6In.out ins := by
  obtain ⟨a, b, c, rfl, _, _, _⟩ := ints3 ht
  refine ⟨trivial, ?_⟩
  show [if (decide (a ≥ b)) = true then Value.bool (decide (a ≤ c)) else Value.bool false] = [Value.bool (decide (b ≤ a) && decide (a ≤ c))]
  by_cases h : b ≤ a <;> simp [h]

def tr_l2In : Tr :=
  (.evs [.call 0 [(.var 0), (.int .i64 (-2000000000)), (.int .i64 2000000000)] none 1]
  (.ret [(.var 1)]))
def Fs_l2In : List Fun1 := [G_l6In]
def F_l2In : Fun1 := ofTree Fs_l2In tr_l2In
def G_l2In : Fun1 := ⟨fun _ => True, fun ins => [.bool (inR (i0 ins 0))]⟩
theorem as_l2In (ins : List Value) (ht : TypedL [.int .i64] ins) (_ : G_l2In.pre ins) : F_l2In.pre ins ∧ F_l2In.out ins = G_l2In.out ins := by
  obtain ⟨a, rfl, _⟩ := ints1 ht
  exact ⟨⟨⟨trivial, trivial⟩, trivial⟩, rfl⟩

def tr_divisor : Tr :=
  (.lp 0 [(.var 0), (.var 1)] [.int .i64, .int .i64]
  (.ite (.cmp .neq (.var 3) (.int .i64 0))
   (.evs [.need [(.cmp .neq (.var 3) (.int .i64 0))]]
    (.next 0 [(.var 3), (.ar .rem .i64 (.var 2) (.var 3))]))
   (.ret [(.var 2)])))
def Fs_divisor : List Fun1 := []
def F_divisor : Fun1 := ⟨fun _ => True, fun ins => [.int .i64 (euc (i0 ins 0) (i0 ins 1))]⟩
theorem sat_divisor (P : Program) (ins : List Value) (K : List Value → Prop) (ht : TypedL [.int .i64, .int .i64] ins) (_ : F_divisor.pre ins) (hK : K (F_divisor.out ins)) : sat P (specsOf Fs_divisor) tr_divisor ins [] K := by
  obtain ⟨a, b, rfl, wa, wb⟩ := ints2 ht
  refine ⟨fun vs => ∃ x y, vs = [.int .i64 x, .int .i64 y] ∧ euc x y = euc a b, fun vs => (toI (vs.getD 1 undef)).natAbs, ⟨a, b, rfl, rfl⟩, ?_⟩
  rintro vs hty ⟨x, y, rfl, he⟩
  refine ⟨fun hc => ?_, fun hc => ?_⟩
  · have hy : y ≠ 0 := by simpa [ev, cmpI] using hc
    refine ⟨fun e he' => by rw [List.mem_singleton.1 he']; exact hc, ⟨_, _, rfl, ?_⟩, ?_⟩
    · rw [← he, euc_step hy]; rfl
    · show (x.tmod y).natAbs < y.natAbs
      rw [Int.natAbs_tmod]
      exact Nat.mod_lt _ (by omega)
  · have hy : y = 0 := by simpa [ev, cmpI] using hc
    subst hy
    rw [euc_zero] at he
    show K [.int .i64 x]
    rw [he]
    exact hK

def tr_l2Gcd : Tr :=
  (.lp 0 [(.var 0), (.var 1)] [.int .i64, .int .i64]
  (.ite (.cmp .neq (.var 3) (.int .i64 0))
   (.evs [.need [(.cmp .neq (.var 3) (.int .i64 0))]]
    (.next 0 [(.var 3), (.ar .rem .i64 (.var 2) (.var 3))]))
   (.ret [(.mx false .i64 (.var 2) (.ar .sub .i64 (.int .i64 0) (.var 2)))])))
def Fs_l2Gcd : List Fun1 := []
def F_l2Gcd : Fun1 := ⟨fun _ => True, fun ins => [.int .i64 (mxI false (euc (i0 ins 0) (i0 ins 1)) (IntKind.i64.wrap (0 - euc (i0 ins 0) (i0 ins 1))))]⟩
theorem sat_l2Gcd (P : Program) (ins : List Value) (K : List Value → Prop) (ht : TypedL [.int .i64, .int .i64] ins) (_ : F_l2Gcd.pre ins) (hK : K (F_l2Gcd.out ins)) : sat P (specsOf Fs_l2Gcd) tr_l2Gcd ins [] K := by
  obtain ⟨a, b, rfl, wa, wb⟩ := ints2 ht
  refine ⟨fun vs => ∃ x y, vs = [.int .i64 x, .int .i64 y] ∧ euc x y = euc a b, fun vs => (toI (vs.getD 1 undef)).natAbs, ⟨a, b, rfl, rfl⟩, ?_⟩
  rintro vs hty ⟨x, y, rfl, he⟩
  refine ⟨fun hc => ?_, fun hc => ?_⟩
  · have hy : y ≠ 0 := by simpa [ev, cmpI] using hc
    refine ⟨fun e he' => by rw [List.mem_singleton.1 he']; exact hc, ⟨_, _, rfl, ?_⟩, ?_⟩
    · rw [← he, euc_step hy]; rfl
    · show (x.tmod y).natAbs < y.natAbs
      rw [Int.natAbs_tmod]
      exact Nat.mod_lt _ (by omega)
  · have hy : y = 0 := by simpa [ev, cmpI] using hc
    subst hy
    rw [euc_zero] at he
    show K [.int .i64 (mxI false x (IntKind.i64.wrap (0 - x)))]
    rw [he]
    exact hK

def tr_lowest : Tr :=
  (.evs [.call 0 [(.var 0)] none 1,
    .call 0 [(.var 1)] none 1,
    .call 1 [(.var 3), (.var 4)] none 1,
    .call 1 [(.var 5), (.var 2)] none 1]
  (.evs [.need [(.cmp .neq (.var 6) (.int .i64 0)), (.cmp .neq (.var 6) (.int .i64 0)), (.cmp .neq (.var 6) (.int .i64 0))]]
  (.evs [.call 2 [(.ar .quo .i64 (.var 0) (.var 6)), (.int .i64 (-2000000000)), (.int .i64 2000000000)] none 1,
    .call 2 [(.ar .quo .i64 (.var 1) (.var 6)), (.int .i64 (-2000000000)), (.int .i64 2000000000)] (some (.not (.not (.var 7)))) 1]
  (.ite (.ite (.ite (.not (.var 7)) (.bool true) (.not (.var 8))) (.bool true) (.cmp .gtr (.ar .quo .i64 (.var 2) (.var 6)) (.int .i64 2000000000)))
  (.ret [(.int .i64 0), (.int .i64 0), (.int .i64 0), (.bool false)])
  (.ret [(.ar .quo .i64 (.var 0) (.var 6)), (.ar .quo .i64 (.var 1) (.var 6)), (.ar .quo .i64 (.var 2) (.var 6)), (.bool true)])))))
def Fs_lowest : List Fun1 := [F_size, F_divisor, G_within]
def F_lowest : Fun1 := ofTree Fs_lowest tr_lowest
/-- What may be put into lowest terms. -/
def lowOk (re im den : Int) : Prop := -9223372036854775808 < re ∧ re ≤ 9223372036854775807 ∧ -9223372036854775808 < im ∧ im ≤ 9223372036854775807 ∧ 1 ≤ den ∧ den ≤ 9223372036854775807
def G_lowest : Fun1 := ⟨fun ins => lowOk (i0 ins 0) (i0 ins 1) (i0 ins 2), fun ins => fr4 (lowI (i0 ins 0) (i0 ins 1) (i0 ins 2))⟩
theorem size_abs {a : Int} (h : -9223372036854775808 < a ∧ a ≤ 9223372036854775807) : mxI false a (IntKind.i64.wrap (0 - a)) = a.natAbs := by
  rw [wrap64]
  unfold mxI
  simp only
  split <;> omega
theorem quo_ok {a : Int} {g : Nat} (h : -9223372036854775808 < a ∧ a ≤ 9223372036854775807) : IntKind.i64.wrap (a.tdiv g) = a.tdiv g := by
  rw [I64_iff]
  have h1 := Int.natAbs_tdiv a g
  have h2 : (a.tdiv g).natAbs ≤ a.natAbs := by rw [h1]; exact Nat.div_le_self _ _
  clear h1
  unfold I64
  generalize a.tdiv g = d at *
  omega
theorem gcd3_pos {a b c : Int} (h : 1 ≤ c) : 0 < gcd3 a b c := Nat.gcd_pos_of_pos_right _ (by omega)
theorem euc_nat (a b : Nat) : euc a b = (Nat.gcd a b : Nat) := euc_eq (by omega) (by omega)
theorem as_lowest (ins : List Value) (ht : TypedL [.int .i64, .int .i64, .int .i64] ins) (hp : G_lowest.pre ins) : F_lowest.pre ins ∧ F_lowest.out ins = G_lowest.out ins := by
  obtain ⟨a, b, c, rfl, wa, wb, wc⟩ := ints3 ht
  obtain ⟨p1, p2, p3, p4, p5, p6⟩ : lowOk a b c := hp
  have e1 := size_abs ⟨p1, p2⟩
  have e2 := size_abs ⟨p3, p4⟩
  have e3 : euc (a.natAbs : Nat) (b.natAbs : Nat) = (Nat.gcd a.natAbs b.natAbs : Nat) := euc_nat _ _
  have e4 : euc (Nat.gcd a.natAbs b.natAbs : Nat) c = (gcd3 a b c : Nat) := by rw [euc_eq (by omega) (by omega)]; rfl
  have hg : gcd3 a b c ≠ 0 := by have := gcd3_pos (a := a) (b := b) p5; omega
  have hgi : ((gcd3 a b c : Nat) : Int) ≠ 0 := by omega
  have q1 := quo_ok (g := gcd3 a b c) ⟨p1, p2⟩
  have q2 := quo_ok (g := gcd3 a b c) ⟨p3, p4⟩
  have q3 := quo_ok (a := c) (g := gcd3 a b c) ⟨by omega, p6⟩
  simp only [F_lowest, G_lowest, tr_lowest, Fs_lowest, F_size, tr_size, Fs_size, F_divisor, G_within, lowI, arI, ofTree, okT, okE, evalT, evalE, evsIn, ev, callF, preF, hasF, needs, i0, b0, toI_int, toB_bool, List.getD_cons_zero, List.getD_cons_succ, List.cons_append, List.nil_append, List.replicate, if_true, if_false, Bool.false_eq_true, and_true, true_and, implies_true, forall_const, false_implies, cmpI, Bool.not_true, Bool.not_false, Bool.true_and, Bool.false_and, Bool.and_true, Bool.and_false, reduceIte, List.append_nil, reduceCtorEq, e1, e2, e3, e4, q1, q2, q3]
  have r1 : ∀ z, inRg z (-2000000000) 2000000000 = inR z := fun _ => rfl
  simp only [r1]
  cases h1 : inR (a.tdiv (gcd3 a b c)) <;> cases h2 : inR (b.tdiv (gcd3 a b c)) <;> by_cases h3 : c.tdiv (gcd3 a b c) ≤ 2000000000 <;> simp [h1, h2, h3, hgi, hg, fr4] <;> omega

def tr_sFracValid : Tr :=
  (.evs [.call 0 [(.var 0)] none 1,
    .call 0 [(.var 1)] (some (.var 3)) 1,
    .call 1 [(.var 2), (.int .i64 1), (.int .i64 2000000000)] (some (.ite (.var 3) (.var 4) (.bool false))) 1,
    .call 2 [(.var 2), (.var 0)] (some (.ite (.ite (.var 3) (.var 4) (.bool false)) (.var 5) (.bool false))) 1,
    .call 2 [(.var 6), (.var 1)] (some (.ite (.ite (.var 3) (.var 4) (.bool false)) (.var 5) (.bool false))) 1]
  (.ret [(.ite (.ite (.ite (.var 3) (.var 4) (.bool false)) (.var 5) (.bool false)) (.cmp .eql (.var 7) (.int .i64 1)) (.bool false))]))
def Fs_sFracValid : List Fun1 := [G_l2In, G_l6In, F_l2Gcd]
def F_sFracValid : Fun1 := ofTree Fs_sFracValid tr_sFracValid
def G_sFracValid : Fun1 := ⟨fun _ => True, fun ins => [.bool (validI (i0 ins 0) (i0 ins 1) (i0 ins 2))]⟩
/-- The loop's value is the divisor where it is small. -/
theorem gcd_small {a b : Int} (h : Nat.gcd b.natAbs a.natAbs < 9223372036854775808) : mxI false (euc b a) (IntKind.i64.wrap (0 - euc b a)) = (Nat.gcd b.natAbs a.natAbs : Nat) := by
  have h1 := euc_gcd b a
  rw [wrap64]
  unfold mxI
  simp only
  split <;> omega
theorem gcd3_alt (a b c : Int) : Nat.gcd (Nat.gcd c.natAbs a.natAbs) b.natAbs = gcd3 a b c := by
  unfold gcd3
  rw [Nat.gcd_comm c.natAbs, Nat.gcd_assoc, Nat.gcd_comm c.natAbs, ← Nat.gcd_assoc]
theorem as_sFracValid (ins : List Value) (ht : TypedL [.int .i64, .int .i64, .int .i64] ins) (_ : G_sFracValid.pre ins) : F_sFracValid.pre ins ∧ F_sFracValid.out ins = G_sFracValid.out ins := by
  obtain ⟨a, b, c, rfl, wa, wb, wc⟩ := ints3 ht
  have key : inR a = true → inR b = true → inRg c 1 2000000000 = true → mxI false (euc c a) (IntKind.i64.wrap (0 - euc c a)) = (Nat.gcd c.natAbs a.natAbs : Nat) ∧
      mxI false (euc (Nat.gcd c.natAbs a.natAbs : Nat) b) (IntKind.i64.wrap (0 - euc (Nat.gcd c.natAbs a.natAbs : Nat) b)) = (gcd3 a b c : Nat) := by
    intro ha hb hc
    simp only [inR, inRg, Bool.and_eq_true, decide_eq_true_eq] at ha hb hc
    have h0 : Nat.gcd c.natAbs a.natAbs ≤ c.natAbs := Nat.gcd_le_left _ (by omega)
    have hp : 0 < Nat.gcd c.natAbs a.natAbs := Nat.gcd_pos_of_pos_left _ (by omega)
    refine ⟨gcd_small (by omega), ?_⟩
    have h2 : Nat.gcd ((Nat.gcd c.natAbs a.natAbs : Nat) : Int).natAbs b.natAbs ≤ Nat.gcd c.natAbs a.natAbs := Nat.gcd_le_left _ hp
    rw [gcd_small (by omega), Int.natAbs_natCast, gcd3_alt]
  simp only [F_sFracValid, G_sFracValid, tr_sFracValid, Fs_sFracValid, G_l2In, G_l6In, F_l2Gcd, validI, ofTree, okT, okE, evalT, evalE, evsIn, ev, callF, preF, hasF, needs, i0, b0, toI_int, toB_bool, List.getD_cons_zero, List.getD_cons_succ, List.cons_append, List.nil_append, List.replicate, if_true, if_false, Bool.false_eq_true, and_true, true_and, implies_true, forall_const, false_implies, cmpI, Bool.not_true, Bool.not_false, Bool.true_and, Bool.false_and, Bool.and_true, Bool.and_false, reduceIte, List.append_nil, reduceCtorEq]
  cases ha : inR a
  · simp [ha]
  · cases hb : inR b
    · simp [ha, hb]
    · cases hc : inRg c 1 2000000000
      · simp [ha, hb, hc]
      · obtain ⟨k1, k2⟩ := key ha hb hc
        simp only [ha, hb, hc, k1, k2, ofTree, okT, okE, evalT, evalE, evsIn, ev, callF, preF, hasF, needs, i0, b0, toI_int, toB_bool, List.getD_cons_zero, List.getD_cons_succ, List.cons_append, List.nil_append, List.replicate, if_true, if_false, Bool.false_eq_true, and_true, true_and, implies_true, forall_const, false_implies, cmpI, Bool.not_true, Bool.not_false, Bool.true_and, Bool.false_and, Bool.and_true, Bool.and_false, reduceIte, List.append_nil, reduceCtorEq]
        simp
        by_cases h1 : gcd3 a b c = 1
        · simp [h1]
        · rw [beq_eq_false_iff_ne.2 h1, beq_eq_false_iff_ne]
          omega

def tr_l2Low : Tr :=
  (.evs [.call 0 [(.var 2), (.var 0)] none 1,
    .call 0 [(.var 3), (.var 1)] none 1]
  (.evs [.need [(.cmp .neq (.var 4) (.int .i64 0)), (.cmp .neq (.var 4) (.int .i64 0)), (.cmp .neq (.var 4) (.int .i64 0))]]
  (.evs [.call 1 [(.ar .quo .i64 (.var 0) (.var 4)), (.ar .quo .i64 (.var 1) (.var 4)), (.ar .quo .i64 (.var 2) (.var 4))] none 1]
  (.ite (.not (.var 5))
  (.ret [(.int .i64 0), (.int .i64 0), (.int .i64 0), (.bool false)])
  (.ret [(.ar .quo .i64 (.var 0) (.var 4)), (.ar .quo .i64 (.var 1) (.var 4)), (.ar .quo .i64 (.var 2) (.var 4)), (.bool true)])))))
def Fs_l2Low : List Fun1 := [F_l2Gcd, G_sFracValid]
def F_l2Low : Fun1 := ofTree Fs_l2Low tr_l2Low
def G_l2Low : Fun1 := ⟨fun ins => lowOk (i0 ins 0) (i0 ins 1) (i0 ins 2), fun ins => fr4 (lowI (i0 ins 0) (i0 ins 1) (i0 ins 2))⟩
theorem gcd3_low {a b c : Int} (h : 1 ≤ c) : gcd3 (a.tdiv (gcd3 a b c)) (b.tdiv (gcd3 a b c)) (c.tdiv (gcd3 a b c)) = 1 := by
  have hg : 0 < gcd3 a b c := gcd3_pos h
  have d3 : gcd3 a b c ∣ c.natAbs := Nat.gcd_dvd_right _ _
  have d12 : gcd3 a b c ∣ Nat.gcd a.natAbs b.natAbs := Nat.gcd_dvd_left _ _
  have d1 := Nat.dvd_trans d12 (Nat.gcd_dvd_left _ _)
  have d2 := Nat.dvd_trans d12 (Nat.gcd_dvd_right _ _)
  show Nat.gcd (Nat.gcd (a.tdiv (gcd3 a b c)).natAbs (b.tdiv (gcd3 a b c)).natAbs) (c.tdiv (gcd3 a b c)).natAbs = 1
  have hd : ∀ x y : Nat, Nat.div x y = x / y := fun _ _ => rfl
  simp only [Int.natAbs_tdiv, Int.natAbs_natCast, hd]
  rw [Nat.gcd_div d1 d2, Nat.gcd_div d12 d3]
  exact Nat.div_self hg
theorem valid_low {a b c : Int} (h : 1 ≤ c) : validI (a.tdiv (gcd3 a b c)) (b.tdiv (gcd3 a b c)) (c.tdiv (gcd3 a b c)) = (inR (a.tdiv (gcd3 a b c)) && (inR (b.tdiv (gcd3 a b c)) && decide (c.tdiv (gcd3 a b c) ≤ 2000000000))) := by
  have hg : 0 < gcd3 a b c := gcd3_pos h
  have d3 : gcd3 a b c ∣ c.natAbs := Nat.gcd_dvd_right _ _
  have h1 : 1 ≤ c.tdiv (gcd3 a b c) := by
    obtain ⟨n, rfl⟩ : ∃ n : Nat, c = n := ⟨c.natAbs, by omega⟩
    rw [← Int.ofNat_tdiv]
    have : 0 < n / gcd3 a b n := Nat.div_pos (Nat.le_of_dvd (by omega) (by simpa using d3)) hg
    omega
  unfold validI inRg
  rw [gcd3_low h]
  simp [h1]
theorem as_l2Low (ins : List Value) (ht : TypedL [.int .i64, .int .i64, .int .i64] ins) (hp : G_l2Low.pre ins) : F_l2Low.pre ins ∧ F_l2Low.out ins = G_l2Low.out ins := by
  obtain ⟨a, b, c, rfl, wa, wb, wc⟩ := ints3 ht
  obtain ⟨p1, p2, p3, p4, p5, p6⟩ : lowOk a b c := hp
  have hc0 : 0 < c.natAbs := by omega
  have g1 : Nat.gcd c.natAbs a.natAbs ≤ c.natAbs := Nat.gcd_le_left _ hc0
  have gp : 0 < Nat.gcd c.natAbs a.natAbs := Nat.gcd_pos_of_pos_left _ hc0
  have e1 : mxI false (euc c a) (IntKind.i64.wrap (0 - euc c a)) = (Nat.gcd c.natAbs a.natAbs : Nat) := gcd_small (by omega)
  have g2 : Nat.gcd ((Nat.gcd c.natAbs a.natAbs : Nat) : Int).natAbs b.natAbs ≤ Nat.gcd c.natAbs a.natAbs := Nat.gcd_le_left _ gp
  have e2 : mxI false (euc (Nat.gcd c.natAbs a.natAbs : Nat) b) (IntKind.i64.wrap (0 - euc (Nat.gcd c.natAbs a.natAbs : Nat) b)) = (gcd3 a b c : Nat) := by
    rw [gcd_small (by omega), Int.natAbs_natCast, gcd3_alt]
  have hg : gcd3 a b c ≠ 0 := by have := gcd3_pos (a := a) (b := b) p5; omega
  have hgi : ((gcd3 a b c : Nat) : Int) ≠ 0 := by omega
  have q1 := quo_ok (g := gcd3 a b c) ⟨p1, p2⟩
  have q2 := quo_ok (g := gcd3 a b c) ⟨p3, p4⟩
  have q3 := quo_ok (a := c) (g := gcd3 a b c) ⟨by omega, p6⟩
  simp only [F_l2Low, G_l2Low, tr_l2Low, Fs_l2Low, F_l2Gcd, G_sFracValid, lowI, arI, ofTree, okT, okE, evalT, evalE, evsIn, ev, callF, preF, hasF, needs, i0, b0, toI_int, toB_bool, List.getD_cons_zero, List.getD_cons_succ, List.cons_append, List.nil_append, List.replicate, if_true, if_false, Bool.false_eq_true, and_true, true_and, implies_true, forall_const, false_implies, cmpI, Bool.not_true, Bool.not_false, Bool.true_and, Bool.false_and, Bool.and_true, Bool.and_false, reduceIte, List.append_nil, reduceCtorEq, e1, e2, q1, q2, q3, valid_low p5]
  cases h1 : inR (a.tdiv (gcd3 a b c)) <;> cases h2 : inR (b.tdiv (gcd3 a b c)) <;> by_cases h3 : c.tdiv (gcd3 a b c) ≤ 2000000000 <;> simp [h1, h2, h3, hgi, hg, fr4] <;> omega

def tr_sFracMake : Tr :=
  (.evs [.call 0 [(.var 2), (.int .i64 1), (.int .i64 1000000000000000000)] none 1,
    .call 0 [(.var 0), (.int .i64 (-1000000000000000000)), (.int .i64 1000000000000000000)] (some (.not (.not (.var 3)))) 1,
    .call 0 [(.var 1), (.int .i64 (-1000000000000000000)), (.int .i64 1000000000000000000)] (some (.not (.ite (.not (.var 3)) (.bool true) (.not (.var 4))))) 1]
  (.ite (.ite (.ite (.not (.var 3)) (.bool true) (.not (.var 4))) (.bool true) (.not (.var 5)))
  (.ret [(.int .i64 0), (.int .i64 0), (.int .i64 0), (.bool false)])
  (.evs [.call 1 [(.var 0), (.var 1), (.var 2)] none 4]
   (.ret [(.var 6), (.var 7), (.var 8), (.var 9)]))))
def Fs_sFracMake : List Fun1 := [G_l6In, G_l2Low]
def F_sFracMake : Fun1 := ofTree Fs_sFracMake tr_sFracMake
def most : Int := 1000000000000000000
def makeI (re im den : Int) : Option (Int × Int × Int) :=
  if inRg den 1 most && (inRg re (-most) most && inRg im (-most) most) then lowI re im den else none
def G_sFracMake : Fun1 := ⟨fun _ => True, fun ins => fr4 (makeI (i0 ins 0) (i0 ins 1) (i0 ins 2))⟩
theorem fr4_split (o : Option (Int × Int × Int)) : ∃ a b c t, fr4 o = [.int .i64 a, .int .i64 b, .int .i64 c, .bool t] := by
  cases o with
  | none => exact ⟨_, _, _, _, rfl⟩
  | some x => obtain ⟨a, b, c⟩ := x; exact ⟨_, _, _, _, rfl⟩
theorem as_sFracMake (ins : List Value) (ht : TypedL [.int .i64, .int .i64, .int .i64] ins) (hp : G_sFracMake.pre ins) : F_sFracMake.pre ins ∧ F_sFracMake.out ins = G_sFracMake.out ins := by
  obtain ⟨a, b, c, rfl, wa, wb, wc⟩ := ints3 ht
  have hlow : inRg c 1 most = true → inRg a (-most) most = true → inRg b (-most) most = true → lowOk a b c := by
    intro h1 h2 h3
    simp only [inRg, Bool.and_eq_true, decide_eq_true_eq] at h1 h2 h3
    unfold most at h1 h2 h3
    unfold lowOk
    omega
  obtain ⟨x, y, z, t, hx⟩ := fr4_split (lowI a b c)
  simp only [F_sFracMake, G_sFracMake, tr_sFracMake, Fs_sFracMake, G_l6In, G_l2Low, makeI, ofTree, okT, okE, evalT, evalE, evsIn, ev, callF, preF, hasF, needs, i0, b0, toI_int, toB_bool, List.getD_cons_zero, List.getD_cons_succ, List.cons_append, List.nil_append, List.replicate, if_true, if_false, Bool.false_eq_true, and_true, true_and, implies_true, forall_const, false_implies, cmpI, Bool.not_true, Bool.not_false, Bool.true_and, Bool.false_and, Bool.and_true, Bool.and_false, reduceIte, List.append_nil, reduceCtorEq]
  have r1 : inRg c 1 1000000000000000000 = inRg c 1 most := rfl
  have r2 : ∀ z, inRg z (-1000000000000000000) 1000000000000000000 = inRg z (-most) most := fun _ => rfl
  simp only [r1, r2]
  cases h1 : inRg c 1 most
  · simp [h1, fr4]
  · cases h2 : inRg a (-most) most
    · simp [h1, h2, fr4]
    · cases h3 : inRg b (-most) most
      · simp [h1, h2, h3, fr4]
      · simp [h1, h2, h3, hx, hlow h1 h2 h3]

def tr_direction : Tr :=
  (.evs [.call 0 [(.var 0), (.int .i64 (-100)), (.int .i64 100)] none 1,
    .call 0 [(.var 1), (.int .i64 (-100)), (.int .i64 100)] (some (.not (.not (.var 2)))) 1]
  (.ite (.ite (.ite (.not (.var 2)) (.bool true) (.not (.var 3))) (.bool true) (.ite (.cmp .eql (.var 0) (.int .i64 0)) (.cmp .eql (.var 1) (.int .i64 0)) (.bool false)))
  (.ret [(.int .i64 0), (.int .i64 0), (.int .i64 0), (.int .i64 0), (.int .i64 0), (.int .i64 0), (.bool false)])
  (.evs [.call 1 [(.ar .sub .i64 (.ar .mul .i64 (.var 0) (.var 0)) (.ar .mul .i64 (.var 1) (.var 1))), (.int .i64 0), (.ar .add .i64 (.ar .mul .i64 (.var 0) (.var 0)) (.ar .mul .i64 (.var 1) (.var 1)))] none 4]
   (.evs [.call 1 [(.ar .mul .i64 (.ar .mul .i64 (.int .i64 2) (.var 0)) (.var 1)), (.int .i64 0), (.ar .add .i64 (.ar .mul .i64 (.var 0) (.var 0)) (.ar .mul .i64 (.var 1) (.var 1)))] none 4]
   (.ret [(.var 4), (.var 5), (.var 6), (.var 8), (.var 9), (.var 10), (.bool true)])))))
def Fs_direction : List Fun1 := [G_within, G_lowest]
def F_direction : Fun1 := ofTree Fs_direction tr_direction
/-- A direction that is told. -/
def dirOk (p q : Int) : Bool := inRg p (-100) 100 && (inRg q (-100) 100 && !(p == 0 && q == 0))
def dirV (p q : Int) : List Value :=
  if dirOk p q then fr3 (lowI (p * p - q * q) 0 (p * p + q * q)) ++ (fr3 (lowI (2 * p * q) 0 (p * p + q * q)) ++ [.bool true])
  else [.int .i64 0, .int .i64 0, .int .i64 0, .int .i64 0, .int .i64 0, .int .i64 0, .bool false]
def G_direction : Fun1 := ⟨fun _ => True, fun ins => dirV (i0 ins 0) (i0 ins 1)⟩
theorem fr4_fr3 (o : Option (Int × Int × Int)) : ∃ a b c t, fr4 o = [.int .i64 a, .int .i64 b, .int .i64 c, .bool t] ∧ fr3 o = [.int .i64 a, .int .i64 b, .int .i64 c] := by
  cases o with
  | none => exact ⟨_, _, _, _, rfl, rfl⟩
  | some x => obtain ⟨a, b, c⟩ := x; exact ⟨_, _, _, _, rfl, rfl⟩
theorem wrap_in {z : Int} (h : -9223372036854775808 ≤ z ∧ z ≤ 9223372036854775807) : IntKind.i64.wrap z = z := (I64_iff z).2 h
theorem sq_nonneg (p : Int) : 0 ≤ p * p := by
  rw [← Int.natAbs_mul_self']
  exact Int.mul_nonneg (Int.natCast_nonneg _) (Int.natCast_nonneg _)
theorem sq_bound {p : Int} (h : -100 ≤ p ∧ p ≤ 100) : 0 ≤ p * p ∧ p * p ≤ 10000 := by
  obtain ⟨h1, h2⟩ := h
  constructor
  · exact sq_nonneg p
  · rcases Int.le_total 0 p with h | h
    · exact Int.mul_le_mul h2 h2 h (by omega)
    · have := Int.mul_le_mul (a := -p) (b := -p) (c := 100) (d := 100) (by omega) (by omega) (by omega) (by omega)
      rw [Int.neg_mul_neg] at this
      exact this
theorem mul_bound {p q : Int} (h : -100 ≤ p ∧ p ≤ 100) (k : -100 ≤ q ∧ q ≤ 100) : -10000 ≤ p * q ∧ p * q ≤ 10000 := by
  have h1 := sq_bound h
  have h2 := sq_bound k
  have h3 : 0 ≤ (p - q) * (p - q) := sq_nonneg _
  have h4 : 0 ≤ (p + q) * (p + q) := sq_nonneg _
  have e3 : (p - q) * (p - q) = p * p - 2 * (p * q) + q * q := by rw [Int.sub_mul, Int.mul_sub, Int.mul_sub, Int.mul_comm q p]; omega
  have e4 : (p + q) * (p + q) = p * p + 2 * (p * q) + q * q := by rw [Int.add_mul, Int.mul_add, Int.mul_add, Int.mul_comm q p]; omega
  generalize p * q = r at *
  generalize p * p = s at *
  generalize q * q = t at *
  omega
theorem sq_pos {p : Int} (h : p ≠ 0) : 1 ≤ p * p := by
  rw [← Int.natAbs_mul_self']
  exact Int.mul_pos (a := (p.natAbs : Int)) (b := (p.natAbs : Int)) (by omega) (by omega)
theorem dir_facts {p q : Int} (h : dirOk p q = true) : lowOk (p * p - q * q) 0 (p * p + q * q) ∧ lowOk (2 * p * q) 0 (p * p + q * q) ∧ IntKind.i64.wrap (p * p) = p * p ∧ IntKind.i64.wrap (q * q) = q * q ∧
    IntKind.i64.wrap (p * p - q * q) = p * p - q * q ∧ IntKind.i64.wrap (p * p + q * q) = p * p + q * q ∧ IntKind.i64.wrap (2 * p) = 2 * p ∧ IntKind.i64.wrap (2 * p * q) = 2 * p * q ∧ 1 ≤ p * p + q * q ∧ p * p + q * q ≤ 20000 ∧
    -10000 ≤ p * p - q * q ∧ p * p - q * q ≤ 10000 ∧ -20000 ≤ 2 * p * q ∧ 2 * p * q ≤ 20000 := by
  simp only [dirOk, inRg, Bool.and_eq_true, decide_eq_true_eq, Bool.not_eq_true', Bool.and_eq_false_iff, beq_eq_false_iff_ne] at h
  obtain ⟨hp, hq, hne⟩ := h
  have b1 := sq_bound hp
  have b2 := sq_bound hq
  have b3 := mul_bound hp hq
  have b4 : 1 ≤ p * p + q * q := by
    rcases hne with h | h
    · have := sq_pos h; omega
    · have := sq_pos h; omega
  have e : 2 * p * q = 2 * (p * q) := Int.mul_assoc _ _ _
  rw [e]
  unfold lowOk
  generalize p * q = r at *
  generalize p * p = s at *
  generalize q * q = t at *
  refine ⟨by omega, by omega, wrap_in (by omega), wrap_in (by omega), wrap_in (by omega), wrap_in (by omega), wrap_in (by omega), wrap_in (by omega), by omega, by omega, by omega, by omega, by omega, by omega⟩
theorem as_direction (ins : List Value) (ht : TypedL [.int .i64, .int .i64] ins) (hp : G_direction.pre ins) : F_direction.pre ins ∧ F_direction.out ins = G_direction.out ins := by
  obtain ⟨p, q, rfl, wp, wq⟩ := ints2 ht
  obtain ⟨x1, y1, z1, t1, hx1, hx1'⟩ := fr4_fr3 (lowI (p * p - q * q) 0 (p * p + q * q))
  obtain ⟨x2, y2, z2, t2, hx2, hx2'⟩ := fr4_fr3 (lowI (2 * p * q) 0 (p * p + q * q))
  simp only [F_direction, G_direction, tr_direction, Fs_direction, G_within, G_lowest, arI, ofTree, okT, okE, evalT, evalE, evsIn, ev, callF, preF, hasF, needs, i0, b0, toI_int, toB_bool, List.getD_cons_zero, List.getD_cons_succ, List.cons_append, List.nil_append, List.replicate, if_true, if_false, Bool.false_eq_true, and_true, true_and, implies_true, forall_const, false_implies, cmpI, Bool.not_true, Bool.not_false, Bool.true_and, Bool.false_and, Bool.and_true, Bool.and_false, reduceIte, List.append_nil, reduceCtorEq]
  cases h1 : inRg p (-100) 100
  · simp [h1, dirV, dirOk]
  · cases h2 : inRg q (-100) 100
    · simp [h1, h2, dirV, dirOk]
    · by_cases h3 : (p == 0 && q == 0) = true
      · have e3 := h3
        simp only [Bool.and_eq_true, beq_iff_eq] at e3
        obtain ⟨rfl, rfl⟩ := e3
        simp [h1, dirV, dirOk]
      · have hd : dirOk p q = true := by
          simp only [dirOk, h1, h2, Bool.true_and]
          cases hb : (p == 0 && q == 0) with
          | true => exact absurd hb h3
          | false => rfl
        obtain ⟨l1, l2, w1, w2, w3, w4, w5, w6, _⟩ := dir_facts hd
        have h3' : (p == 0 && q == 0) = false := by simpa using h3
        have h4 : ¬(p = 0 ∧ q = 0) := by rintro ⟨rfl, rfl⟩; exact h3 rfl
        simp only [dirV, hd, if_true, hx1', hx2', w1, w2, w3, w4, w5, w6, hx1, hx2, h1, h2, ofTree, okT, okE, evalT, evalE, evsIn, ev, callF, preF, hasF, needs, i0, b0, toI_int, toB_bool, List.getD_cons_zero, List.getD_cons_succ, List.cons_append, List.nil_append, List.replicate, if_true, if_false, Bool.false_eq_true, and_true, true_and, implies_true, forall_const, false_implies, cmpI, Bool.not_true, Bool.not_false, Bool.true_and, Bool.false_and, Bool.and_true, Bool.and_false, reduceIte, List.append_nil, reduceCtorEq]
        clear hd w1 w2 w3 w4 w5 w6 hx1 hx2 hx1' hx2' h1 h2 ht hp
        generalize p * p - q * q = A at *
        generalize 2 * p * q = B at *
        generalize p * p + q * q = C at *
        by_cases h5 : p = 0
        · by_cases h6 : q = 0
          · exact absurd ⟨h5, h6⟩ h4
          · simp [h5, h6, l1, l2]
        · simp [h5, l1, l2]

def tr_l5Direction : Tr :=
  (.evs [.call 0 [(.var 0), (.int .i64 (-100)), (.int .i64 100)] none 1,
    .call 0 [(.var 1), (.int .i64 (-100)), (.int .i64 100)] (some (.not (.not (.var 2)))) 1]
  (.ite (.ite (.ite (.not (.var 2)) (.bool true) (.not (.var 3))) (.bool true) (.ite (.cmp .eql (.var 0) (.int .i64 0)) (.cmp .eql (.var 1) (.int .i64 0)) (.bool false)))
  (.ret [(.int .i64 0), (.int .i64 0), (.int .i64 0), (.int .i64 0), (.int .i64 0), (.int .i64 0), (.bool false)])
  (.evs [.call 1 [(.ar .sub .i64 (.ar .mul .i64 (.var 0) (.var 0)) (.ar .mul .i64 (.var 1) (.var 1))), (.int .i64 0), (.ar .add .i64 (.ar .mul .i64 (.var 0) (.var 0)) (.ar .mul .i64 (.var 1) (.var 1)))] none 4]
   (.evs [.call 1 [(.ar .mul .i64 (.ar .mul .i64 (.int .i64 2) (.var 0)) (.var 1)), (.int .i64 0), (.ar .add .i64 (.ar .mul .i64 (.var 0) (.var 0)) (.ar .mul .i64 (.var 1) (.var 1)))] none 4]
   (.ret [(.var 4), (.var 5), (.var 6), (.var 8), (.var 9), (.var 10), (.bool true)])))))
def Fs_l5Direction : List Fun1 := [G_l6In, G_sFracMake]
def F_l5Direction : Fun1 := ofTree Fs_l5Direction tr_l5Direction
def G_l5Direction : Fun1 := ⟨fun _ => True, fun ins => dirV (i0 ins 0) (i0 ins 1)⟩
theorem make_small {a c x : Int} (h1 : -x ≤ a) (h2 : a ≤ x) (h3 : 1 ≤ c) (h4 : c ≤ 20000) (hx : x ≤ 20000 := by omega) : makeI a 0 c = lowI a 0 c := by
  unfold makeI inRg most
  rw [if_pos]
  simp only [Bool.and_eq_true, decide_eq_true_eq]
  omega
theorem as_l5Direction (ins : List Value) (ht : TypedL [.int .i64, .int .i64] ins) (hp : G_l5Direction.pre ins) : F_l5Direction.pre ins ∧ F_l5Direction.out ins = G_l5Direction.out ins := by
  obtain ⟨p, q, rfl, wp, wq⟩ := ints2 ht
  obtain ⟨x1, y1, z1, t1, hx1, hx1'⟩ := fr4_fr3 (lowI (p * p - q * q) 0 (p * p + q * q))
  obtain ⟨x2, y2, z2, t2, hx2, hx2'⟩ := fr4_fr3 (lowI (2 * p * q) 0 (p * p + q * q))
  simp only [F_l5Direction, G_l5Direction, tr_l5Direction, Fs_l5Direction, G_l6In, G_sFracMake, arI, ofTree, okT, okE, evalT, evalE, evsIn, ev, callF, preF, hasF, needs, i0, b0, toI_int, toB_bool, List.getD_cons_zero, List.getD_cons_succ, List.cons_append, List.nil_append, List.replicate, if_true, if_false, Bool.false_eq_true, and_true, true_and, implies_true, forall_const, false_implies, cmpI, Bool.not_true, Bool.not_false, Bool.true_and, Bool.false_and, Bool.and_true, Bool.and_false, reduceIte, List.append_nil, reduceCtorEq]
  cases h1 : inRg p (-100) 100
  · simp [h1, dirV, dirOk]
  · cases h2 : inRg q (-100) 100
    · simp [h1, h2, dirV, dirOk]
    · by_cases h3 : (p == 0 && q == 0) = true
      · have e3 := h3
        simp only [Bool.and_eq_true, beq_iff_eq] at e3
        obtain ⟨rfl, rfl⟩ := e3
        simp [h1, dirV, dirOk]
      · have hd : dirOk p q = true := by
          simp only [dirOk, h1, h2, Bool.true_and]
          cases hb : (p == 0 && q == 0) with
          | true => exact absurd hb h3
          | false => rfl
        obtain ⟨l1, l2, w1, w2, w3, w4, w5, w6, k1, k2, k3, k4, k5, k6⟩ := dir_facts hd
        have h3' : (p == 0 && q == 0) = false := by simpa using h3
        have h4 : ¬(p = 0 ∧ q = 0) := by rintro ⟨rfl, rfl⟩; exact h3 rfl
        have m1 := make_small k3 k4 k1 k2
        have m2 := make_small k5 k6 k1 k2
        simp only [m1, m2, dirV, hd, if_true, hx1', hx2', w1, w2, w3, w4, w5, w6, hx1, hx2, h1, h2, ofTree, okT, okE, evalT, evalE, evsIn, ev, callF, preF, hasF, needs, i0, b0, toI_int, toB_bool, List.getD_cons_zero, List.getD_cons_succ, List.cons_append, List.nil_append, List.replicate, if_true, if_false, Bool.false_eq_true, and_true, true_and, implies_true, forall_const, false_implies, cmpI, Bool.not_true, Bool.not_false, Bool.true_and, Bool.false_and, Bool.and_true, Bool.and_false, reduceIte, List.append_nil, reduceCtorEq]
        clear m1 m2 k1 k2 k3 k4 k5 k6 hd w1 w2 w3 w4 w5 w6 hx1 hx2 hx1' hx2' h1 h2 ht hp
        generalize p * p - q * q = A at *
        generalize 2 * p * q = B at *
        generalize p * p + q * q = C at *
        by_cases h5 : p = 0
        · by_cases h6 : q = 0
          · exact absurd ⟨h5, h6⟩ h4
          · simp [h5, h6, l1, l2]
        · simp [h5, l1, l2]

def tr_sectionOk : Tr :=
  (.evs [.call 0 [(.var 0), (.var 1)] none 7]
  (.evs [.call 1 [(.var 2), (.int .i64 0), (.int .i64 3)] (some (.var 10)) 1,
    .call 1 [(.var 3), (.int .i64 0), (.int .i64 50)] (some (.ite (.var 10) (.var 11) (.bool false))) 1]
  (.ret [(.ite (.ite (.var 10) (.var 11) (.bool false)) (.var 12) (.bool false))])))
def Fs_sectionOk : List Fun1 := [G_direction, G_within]
def F_sectionOk : Fun1 := ofTree Fs_sectionOk tr_sectionOk
def secOk (p q k n : Int) : Bool := dirOk p q && (inRg k 0 3 && inRg n 0 50)
def G_sectionOk : Fun1 := ⟨fun _ => True, fun ins => [.bool (secOk (i0 ins 0) (i0 ins 1) (i0 ins 2) (i0 ins 3))]⟩
theorem dirV_split (p q : Int) : ∃ a1 a2 a3 b1 b2 b3, dirV p q = [.int .i64 a1, .int .i64 a2, .int .i64 a3, .int .i64 b1, .int .i64 b2, .int .i64 b3, .bool (dirOk p q)] := by
  unfold dirV
  cases h : dirOk p q with
  | false => exact ⟨_, _, _, _, _, _, rfl⟩
  | true =>
    obtain ⟨x1, y1, z1, t1, _, hx1⟩ := fr4_fr3 (lowI (p * p - q * q) 0 (p * p + q * q))
    obtain ⟨x2, y2, z2, t2, _, hx2⟩ := fr4_fr3 (lowI (2 * p * q) 0 (p * p + q * q))
    simp only [if_true, hx1, hx2]
    exact ⟨_, _, _, _, _, _, rfl⟩
theorem as_sectionOk (ins : List Value) (ht : TypedL [.int .i64, .int .i64, .int .i64, .int .i64] ins) (hp : G_sectionOk.pre ins) : F_sectionOk.pre ins ∧ F_sectionOk.out ins = G_sectionOk.out ins := by
  obtain ⟨p, q, k, n, rfl, _, _, _, _⟩ := ints4 ht
  obtain ⟨a1, a2, a3, b1, b2, b3, hv⟩ := dirV_split p q
  simp only [F_sectionOk, G_sectionOk, tr_sectionOk, Fs_sectionOk, G_direction, G_within, secOk, hv, ofTree, okT, okE, evalT, evalE, evsIn, ev, callF, preF, hasF, needs, i0, b0, toI_int, toB_bool, List.getD_cons_zero, List.getD_cons_succ, List.cons_append, List.nil_append, List.replicate, if_true, if_false, Bool.false_eq_true, and_true, true_and, implies_true, forall_const, false_implies, cmpI, Bool.not_true, Bool.not_false, Bool.true_and, Bool.false_and, Bool.and_true, Bool.and_false, reduceIte, List.append_nil, reduceCtorEq]
  cases h1 : dirOk p q <;> cases h2 : inRg k 0 3 <;> cases h3 : inRg n 0 50 <;> simp

def tr_beat : Tr :=
  (.evs [.need [(.cmp .leq (.int .i64 0) (.var 0)), (.cmp .lss (.var 0) (.int .i64 4))]]
  (.ret [(.ite (.cmp .eql (.var 0) (.int .i64 0)) (.int .i64 1) (.ite (.cmp .eql (.var 0) (.int .i64 1)) (.int .i64 4) (.ite (.cmp .eql (.var 0) (.int .i64 2)) (.int .i64 2) (.int .i64 4))))]))
def Fs_beat : List Fun1 := []
def F_beat : Fun1 := ofTree Fs_beat tr_beat
def beatI (k : Int) : Int := if k = 0 then 1 else if k = 2 then 2 else 4
def G_beat : Fun1 := ⟨fun ins => 0 ≤ i0 ins 0 ∧ i0 ins 0 ≤ 3, fun ins => [.int .i64 (beatI (i0 ins 0))]⟩
theorem as_beat (ins : List Value) (ht : TypedL [.int .i64] ins) (hp : G_beat.pre ins) : F_beat.pre ins ∧ F_beat.out ins = G_beat.out ins := by
  obtain ⟨k, rfl, _⟩ := ints1 ht
  obtain ⟨h1, h2⟩ : 0 ≤ k ∧ k ≤ 3 := hp
  have hk : k = 0 ∨ k = 1 ∨ k = 2 ∨ k = 3 := by omega
  rcases hk with rfl | rfl | rfl | rfl <;> exact ⟨⟨⟨⟨rfl, rfl, trivial⟩, trivial⟩, trivial⟩, rfl⟩

def tr_iFibreBeat : Tr :=
  (.evs [.call 0 [(.var 0), (.var 1), (.var 2), (.var 3)] none 1]
  (.ite (.not (.var 4))
  (.ret [(.int .i64 0), (.bool false)])
  (.evs [.call 1 [(.var 2)] none 1]
   (.ret [(.var 5), (.bool true)]))))
def Fs_iFibreBeat : List Fun1 := [G_sectionOk, G_beat]
def F_iFibreBeat : Fun1 := ofTree Fs_iFibreBeat tr_iFibreBeat
def beatV (p q k n : Int) : List Value := if secOk p q k n then [.int .i64 (beatI k), .bool true] else [.int .i64 0, .bool false]
def G_iFibreBeat : Fun1 := ⟨fun _ => True, fun ins => beatV (i0 ins 0) (i0 ins 1) (i0 ins 2) (i0 ins 3)⟩
theorem as_iFibreBeat (ins : List Value) (ht : TypedL [.int .i64, .int .i64, .int .i64, .int .i64] ins) (hp : G_iFibreBeat.pre ins) : F_iFibreBeat.pre ins ∧ F_iFibreBeat.out ins = G_iFibreBeat.out ins := by
  obtain ⟨p, q, k, n, rfl, _, _, _, _⟩ := ints4 ht
  simp only [F_iFibreBeat, G_iFibreBeat, tr_iFibreBeat, Fs_iFibreBeat, G_sectionOk, G_beat, beatV, ofTree, okT, okE, evalT, evalE, evsIn, ev, callF, preF, hasF, needs, i0, b0, toI_int, toB_bool, List.getD_cons_zero, List.getD_cons_succ, List.cons_append, List.nil_append, List.replicate, if_true, if_false, Bool.false_eq_true, and_true, true_and, implies_true, forall_const, false_implies, cmpI, Bool.not_true, Bool.not_false, Bool.true_and, Bool.false_and, Bool.and_true, Bool.and_false, reduceIte, List.append_nil, reduceCtorEq]
  cases h1 : secOk p q k n
  · simp
  · simp only [secOk, inRg, Bool.and_eq_true, decide_eq_true_eq] at h1
    simp
    omega

def tr_sFibreValid1 : Tr :=
  (.evs [.call 0 [(.var 0), (.var 1)] none 7]
  (.evs [.call 1 [(.var 2), (.int .i64 0), (.int .i64 3)] (some (.not (.not (.var 10)))) 1,
    .call 1 [(.var 3), (.int .i64 0), (.int .i64 50)] (some (.not (.ite (.not (.var 10)) (.bool true) (.not (.var 11))))) 1]
  (.ite (.ite (.ite (.not (.var 10)) (.bool true) (.not (.var 11))) (.bool true) (.not (.var 12)))
  (.ret [(.bool false), (.var 0), (.var 1), (.var 2), (.var 3)])
  (.ret [(.bool true), (.var 0), (.var 1), (.var 2), (.var 3)]))))
def Fs_sFibreValid1 : List Fun1 := [G_l5Direction, G_l6In]
def F_sFibreValid1 : Fun1 := ofTree Fs_sFibreValid1 tr_sFibreValid1
def G_sFibreValid1 : Fun1 := ⟨fun _ => True, fun ins => [.bool (secOk (i0 ins 0) (i0 ins 1) (i0 ins 2) (i0 ins 3)), .int .i64 (i0 ins 0), .int .i64 (i0 ins 1), .int .i64 (i0 ins 2), .int .i64 (i0 ins 3)]⟩
theorem as_sFibreValid1 (ins : List Value) (ht : TypedL [.int .i64, .int .i64, .int .i64, .int .i64] ins) (hp : G_sFibreValid1.pre ins) : F_sFibreValid1.pre ins ∧ F_sFibreValid1.out ins = G_sFibreValid1.out ins := by
  obtain ⟨p, q, k, n, rfl, _, _, _, _⟩ := ints4 ht
  obtain ⟨a1, a2, a3, b1, b2, b3, hv⟩ := dirV_split p q
  simp only [F_sFibreValid1, G_sFibreValid1, tr_sFibreValid1, Fs_sFibreValid1, G_l5Direction, G_l6In, secOk, hv, ofTree, okT, okE, evalT, evalE, evsIn, ev, callF, preF, hasF, needs, i0, b0, toI_int, toB_bool, List.getD_cons_zero, List.getD_cons_succ, List.cons_append, List.nil_append, List.replicate, if_true, if_false, Bool.false_eq_true, and_true, true_and, implies_true, forall_const, false_implies, cmpI, Bool.not_true, Bool.not_false, Bool.true_and, Bool.false_and, Bool.and_true, Bool.and_false, reduceIte, List.append_nil, reduceCtorEq]
  cases h1 : dirOk p q <;> cases h2 : inRg k 0 3 <;> cases h3 : inRg n 0 50 <;> simp

def tr_sFibreBeat : Tr :=
  (.evs [.call 0 [(.var 0), (.var 1), (.var 2), (.var 3)] none 5]
  (.ite (.not (.var 4))
  (.ret [(.int .i64 0), (.bool false)])
  (.evs [.call 1 [(.int .i64 4), (.var 2)] none 1,
     .need [(.cmp .neq (.var 9) (.int .i64 0))]]
   (.ret [(.ar .quo .i64 (.int .i64 4) (.var 9)), (.bool true)]))))
def Fs_sFibreBeat : List Fun1 := [G_sFibreValid1, F_l2Gcd]
def F_sFibreBeat : Fun1 := ofTree Fs_sFibreBeat tr_sFibreBeat
def G_sFibreBeat : Fun1 := ⟨fun _ => True, fun ins => beatV (i0 ins 0) (i0 ins 1) (i0 ins 2) (i0 ins 3)⟩
theorem as_sFibreBeat (ins : List Value) (ht : TypedL [.int .i64, .int .i64, .int .i64, .int .i64] ins) (hp : G_sFibreBeat.pre ins) : F_sFibreBeat.pre ins ∧ F_sFibreBeat.out ins = G_sFibreBeat.out ins := by
  obtain ⟨p, q, k, n, rfl, _, _, _, _⟩ := ints4 ht
  simp only [F_sFibreBeat, G_sFibreBeat, tr_sFibreBeat, Fs_sFibreBeat, G_sFibreValid1, F_l2Gcd, beatV, arI, ofTree, okT, okE, evalT, evalE, evsIn, ev, callF, preF, hasF, needs, i0, b0, toI_int, toB_bool, List.getD_cons_zero, List.getD_cons_succ, List.cons_append, List.nil_append, List.replicate, if_true, if_false, Bool.false_eq_true, and_true, true_and, implies_true, forall_const, false_implies, cmpI, Bool.not_true, Bool.not_false, Bool.true_and, Bool.false_and, Bool.and_true, Bool.and_false, reduceIte, List.append_nil, reduceCtorEq]
  cases h1 : secOk p q k n
  · simp
  · simp only [secOk, inRg, Bool.and_eq_true, decide_eq_true_eq] at h1
    have hk : k = 0 ∨ k = 1 ∨ k = 2 ∨ k = 3 := by omega
    have e0 : euc 4 0 = 4 := euc_zero 4
    have e1 : euc 4 1 = 1 := by rw [euc_step (by omega), show (4 : Int).tmod 1 = 0 from rfl, euc_zero]
    have e2 : euc 4 2 = 2 := by rw [euc_step (by omega), show (4 : Int).tmod 2 = 0 from rfl, euc_zero]
    have e3 : euc 4 3 = 1 := by rw [euc_step (by omega), show (4 : Int).tmod 3 = 1 from rfl, euc_step (by omega), show (3 : Int).tmod 1 = 0 from rfl, euc_zero]
    rcases hk with rfl | rfl | rfl | rfl
    · rw [e0]; exact ⟨by rw [if_neg (by decide)]; rfl, rfl⟩
    · rw [e1]; exact ⟨by rw [if_neg (by decide)]; rfl, rfl⟩
    · rw [e2]; exact ⟨by rw [if_neg (by decide)]; rfl, rfl⟩
    · rw [e3]; exact ⟨by rw [if_neg (by decide)]; rfl, rfl⟩

def tr_toSection : Tr :=
  (.ret [(.var 0), (.var 1), (.var 2), (.var 3)])
def Fs_toSection : List Fun1 := []
def F_toSection : Fun1 := ofTree Fs_toSection tr_toSection

def tr_FnExactFibreBeat : Tr :=
  (.evs [.call 0 [(.var 0), (.var 1), (.var 2), (.var 3)] none 4,
    .call 1 [(.var 4), (.var 5), (.var 6), (.var 7)] none 2]
  (.evs [.call 0 [(.var 0), (.var 1), (.var 2), (.var 3)] none 4,
    .call 2 [(.var 10), (.var 11), (.var 12), (.var 13)] none 2]
  (.ite (.ite (.cmp .neq (.var 14) (.var 8)) (.bool true) (.not (.eqb (.var 15) (.var 9))))
  (.ret [(.bool false)])
  (.ret [(.bool true)]))))
def Fs_FnExactFibreBeat : List Fun1 := [F_toSection, G_sFibreBeat, G_iFibreBeat]
def F_FnExactFibreBeat : Fun1 := ofTree Fs_FnExactFibreBeat tr_FnExactFibreBeat
theorem law_FnExactFibreBeat (ins : List Value) (ht : TypedL [.int .i64, .int .i64, .int .i64, .int .i64] ins) : F_FnExactFibreBeat.pre ins ∧ F_FnExactFibreBeat.out ins = [.bool true] := by
  obtain ⟨p, q, k, n, rfl, _, _, _, _⟩ := ints4 ht
  obtain ⟨m, t, hv⟩ : ∃ m t, beatV p q k n = [.int .i64 m, .bool t] := by
    unfold beatV
    split
    · exact ⟨_, _, rfl⟩
    · exact ⟨_, _, rfl⟩
  simp only [F_FnExactFibreBeat, tr_FnExactFibreBeat, Fs_FnExactFibreBeat, F_toSection, tr_toSection, Fs_toSection, G_sFibreBeat, G_iFibreBeat, hv, ofTree, okT, okE, evalT, evalE, evsIn, ev, callF, preF, hasF, needs, i0, b0, toI_int, toB_bool, List.getD_cons_zero, List.getD_cons_succ, List.cons_append, List.nil_append, List.replicate, if_true, if_false, Bool.false_eq_true, and_true, true_and, implies_true, forall_const, false_implies, cmpI, Bool.not_true, Bool.not_false, Bool.true_and, Bool.false_and, Bool.and_true, Bool.and_false, reduceIte, List.append_nil, reduceCtorEq]
  cases t <;> simp

end Go.Sx

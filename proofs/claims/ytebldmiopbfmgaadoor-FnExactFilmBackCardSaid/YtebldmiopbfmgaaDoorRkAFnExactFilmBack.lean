/- What the functions reckon, by their trees. -/
import Derived.Test.YtebldmiopbfmgaaDoorEg
import Derived.KernelRfl
namespace Go.Sx
open Go
set_option maxRecDepth 100000
set_option linter.unusedSimpArgs false
set_option linter.unusedVariables false

def tr_size : Tr :=
  (.ret [(.mx false .i64 (.var 0) (.ar .sub .i64 (.int .i64 0) (.var 0)))])
def Fs_size : List Fun1 := []
def F_size : Fun1 := ofTree Fs_size tr_size

def tr_within : Tr :=
  (.ret [(.ite (.cmp .geq (.var 0) (.var 1)) (.cmp .leq (.var 0) (.var 2)) (.bool false))])
def Fs_within : List Fun1 := []
def F_within : Fun1 := ofTree Fs_within tr_within
def G_within : Fun1 := ⟨fun _ => True, fun ins => [.bool (inRg (i0 ins 0) (i0 ins 1) (i0 ins 2))]⟩
theorem as_within (ins : List Value) (ht : TypedL [.int .i64, .int .i64, .int .i64] ins) (_ : G_within.pre ins) : F_within.pre ins ∧ F_within.out ins = G_within.out ins := by
  obtain ⟨a, b, c, rfl, _, _, _⟩ := ints3 ht
  refine ⟨trivial, ?_⟩
  show [if (decide (a ≥ b)) = true then Value.bool (decide (a ≤ c)) else Value.bool false] = [Value.bool (decide (b ≤ a) && decide (a ≤ c))]
  by_cases h : b ≤ a <;> simp [h]

def tr_l6In : Tr :=
  (.ret [(.ite (.cmp .geq (.var 0) (.var 1)) (.cmp .leq (.var 0) (.var 2)) (.bool false))])
def Fs_l6In : List Fun1 := []
def F_l6In : Fun1 := ofTree Fs_l6In tr_l6In
def G_l6In : Fun1 := ⟨fun _ => True, fun ins => [.bool (inRg (i0 ins 0) (i0 ins 1) (i0 ins 2))]⟩
theorem as_l6In (ins : List Value) (ht : TypedL [.int .i64, .int .i64, .int .i64] ins) (_ : G_l6In.pre ins) : F_l6In.pre ins ∧ F_l6In.out ins = G_l6In.out ins := by
  obtain ⟨a, b, c, rfl, _, _, _⟩ := ints3 ht
  refine ⟨trivial, ?_⟩
  show [if (decide (a ≥ b)) = true then Value.bool (decide (a ≤ c)) else Value.bool false] = [Value.bool (decide (b ≤ a) && decide (a ≤ c))]
  by_cases h : b ≤ a <;> simp [h]

def tr_l2In : Tr :=
  (.evs [.call 0 [(.var 0), (.int .i64 (-2000000000)), (.int .i64 2000000000)] none 1]
  (.ret [(.var 1)]))
def Fs_l2In : List Fun1 := [G_l6In]
def F_l2In : Fun1 := ofTree Fs_l2In tr_l2In
def G_l2In : Fun1 := ⟨fun _ => True, fun ins => [.bool (inR (i0 ins 0))]⟩
theorem as_l2In (ins : List Value) (ht : TypedL [.int .i64] ins) (_ : G_l2In.pre ins) : F_l2In.pre ins ∧ F_l2In.out ins = G_l2In.out ins := by
  obtain ⟨a, rfl, _⟩ := ints1 ht
  exact ⟨⟨⟨trivial, trivial⟩, trivial⟩, rfl⟩

def tr_divisor : Tr :=
  (.lp 0 [(.var 0), (.var 1)] [.int .i64, .int .i64]
  (.ite (.cmp .neq (.var 3) (.int .i64 0))
   (.evs [.need [(.cmp .neq (.var 3) (.int .i64 0))]]
    (.next 0 [(.var 3), (.ar .rem .i64 (.var 2) (.var 3))]))
   (.ret [(.var 2)])))
def Fs_divisor : List Fun1 := []
def F_divisor : Fun1 := ⟨fun _ => True, fun ins => [.int .i64 (euc (i0 ins 0) (i0 ins 1))]⟩
theorem sat_divisor (P : Program) (ins : List Value) (K : List Value → Prop) (ht : TypedL [.int .i64, .int .i64] ins) (_ : F_divisor.pre ins) (hK : K (F_divisor.out ins)) : sat P (specsOf Fs_divisor) tr_divisor ins [] K := by
  obtain ⟨a, b, rfl, wa, wb⟩ := ints2 ht
  refine ⟨fun vs => ∃ x y, vs = [.int .i64 x, .int .i64 y] ∧ euc x y = euc a b, fun vs => (toI (vs.getD 1 undef)).natAbs, ⟨a, b, rfl, rfl⟩, ?_⟩
  rintro vs hty ⟨x, y, rfl, he⟩
  refine ⟨fun hc => ?_, fun hc => ?_⟩
  · have hy : y ≠ 0 := by simpa [ev, cmpI] using hc
    refine ⟨fun e he' => by rw [List.mem_singleton.1 he']; exact hc, ⟨_, _, rfl, ?_⟩, ?_⟩
    · rw [← he, euc_step hy]; rfl
    · show (x.tmod y).natAbs < y.natAbs
      rw [Int.natAbs_tmod]
      exact Nat.mod_lt _ (by omega)
  · have hy : y = 0 := by simpa [ev, cmpI] using hc
    subst hy
    rw [euc_zero] at he
    show K [.int .i64 x]
    rw [he]
    exact hK

def tr_l2Gcd : Tr :=
  (.lp 0 [(.var 0), (.var 1)] [.int .i64, .int .i64]
  (.ite (.cmp .neq (.var 3) (.int .i64 0))
   (.evs [.need [(.cmp .neq (.var 3) (.int .i64 0))]]
    (.next 0 [(.var 3), (.ar .rem .i64 (.var 2) (.var 3))]))
   (.ret [(.mx false .i64 (.var 2) (.ar .sub .i64 (.int .i64 0) (.var 2)))])))
def Fs_l2Gcd : List Fun1 := []
def F_l2Gcd : Fun1 := ⟨fun _ => True, fun ins => [.int .i64 (mxI false (euc (i0 ins 0) (i0 ins 1)) (IntKind.i64.wrap (0 - euc (i0 ins 0) (i0 ins 1))))]⟩
theorem sat_l2Gcd (P : Program) (ins : List Value) (K : List Value → Prop) (ht : TypedL [.int .i64, .int .i64] ins) (_ : F_l2Gcd.pre ins) (hK : K (F_l2Gcd.out ins)) : sat P (specsOf Fs_l2Gcd) tr_l2Gcd ins [] K := by
  obtain ⟨a, b, rfl, wa, wb⟩ := ints2 ht
  refine ⟨fun vs => ∃ x y, vs = [.int .i64 x, .int .i64 y] ∧ euc x y = euc a b, fun vs => (toI (vs.getD 1 undef)).natAbs, ⟨a, b, rfl, rfl⟩, ?_⟩
  rintro vs hty ⟨x, y, rfl, he⟩
  refine ⟨fun hc => ?_, fun hc => ?_⟩
  · have hy : y ≠ 0 := by simpa [ev, cmpI] using hc
    refine ⟨fun e he' => by rw [List.mem_singleton.1 he']; exact hc, ⟨_, _, rfl, ?_⟩, ?_⟩
    · rw [← he, euc_step hy]; rfl
    · show (x.tmod y).natAbs < y.natAbs
      rw [Int.natAbs_tmod]
      exact Nat.mod_lt _ (by omega)
  · have hy : y = 0 := by simpa [ev, cmpI] using hc
    subst hy
    rw [euc_zero] at he
    show K [.int .i64 (mxI false x (IntKind.i64.wrap (0 - x)))]
    rw [he]
    exact hK

def tr_sFracValid : Tr :=
  (.evs [.call 0 [(.var 0)] none 1,
    .call 0 [(.var 1)] (some (.var 3)) 1,
    .call 1 [(.var 2), (.int .i64 1), (.int .i64 2000000000)] (some (.ite (.var 3) (.var 4) (.bool false))) 1,
    .call 2 [(.var 2), (.var 0)] (some (.ite (.ite (.var 3) (.var 4) (.bool false)) (.var 5) (.bool false))) 1,
    .call 2 [(.var 6), (.var 1)] (some (.ite (.ite (.var 3) (.var 4) (.bool false)) (.var 5) (.bool false))) 1]
  (.ret [(.ite (.ite (.ite (.var 3) (.var 4) (.bool false)) (.var 5) (.bool false)) (.cmp .eql (.var 7) (.int .i64 1)) (.bool false))]))
def Fs_sFracValid : List Fun1 := [G_l2In, G_l6In, F_l2Gcd]
def F_sFracValid : Fun1 := ofTree Fs_sFracValid tr_sFracValid
def G_sFracValid : Fun1 := ⟨fun _ => True, fun ins => [.bool (validI (i0 ins 0) (i0 ins 1) (i0 ins 2))]⟩
theorem as_sFracValid (ins : List Value) (ht : TypedL [.int .i64, .int .i64, .int .i64] ins) (_ : G_sFracValid.pre ins) : F_sFracValid.pre ins ∧ F_sFracValid.out ins = G_sFracValid.out ins := by
  obtain ⟨a, b, c, rfl, wa, wb, wc⟩ := ints3 ht
  have key : inR a = true → inR b = true → inRg c 1 2000000000 = true → mxI false (euc c a) (IntKind.i64.wrap (0 - euc c a)) = (Nat.gcd c.natAbs a.natAbs : Nat) ∧
      mxI false (euc (Nat.gcd c.natAbs a.natAbs : Nat) b) (IntKind.i64.wrap (0 - euc (Nat.gcd c.natAbs a.natAbs : Nat) b)) = (gcd3 a b c : Nat) := by
    intro ha hb hc
    simp only [inR, inRg, Bool.and_eq_true, decide_eq_true_eq] at ha hb hc
    have h0 : Nat.gcd c.natAbs a.natAbs ≤ c.natAbs := Nat.gcd_le_left _ (by omega)
    have hp : 0 < Nat.gcd c.natAbs a.natAbs := Nat.gcd_pos_of_pos_left _ (by omega)
    refine ⟨gcd_small (by omega), ?_⟩
    have h2 : Nat.gcd ((Nat.gcd c.natAbs a.natAbs : Nat) : Int).natAbs b.natAbs ≤ Nat.gcd c.natAbs a.natAbs := Nat.gcd_le_left _ hp
    rw [gcd_small (by omega), Int.natAbs_natCast, gcd3_alt]
  simp only [F_sFracValid, G_sFracValid, tr_sFracValid, Fs_sFracValid, G_l2In, G_l6In, F_l2Gcd, validI, ofTree, okT, okE, evalT, evalE, evsIn, ev, callF, preF, hasF, needs, i0, b0, toI_int, toB_bool, List.getD_cons_zero, List.getD_cons_succ, List.cons_append, List.nil_append, List.replicate, if_true, if_false, Bool.false_eq_true, and_true, true_and, implies_true, forall_const, false_implies, cmpI, Bool.not_true, Bool.not_false, Bool.true_and, Bool.false_and, Bool.and_true, Bool.and_false, reduceIte, List.append_nil, reduceCtorEq]
  cases ha : inR a
  · simp [ha]
  · cases hb : inR b
    · simp [ha, hb]
    · cases hc : inRg c 1 2000000000
      · simp [ha, hb, hc]
      · obtain ⟨k1, k2⟩ := key ha hb hc
        simp only [ha, hb, hc, k1, k2, ofTree, okT, okE, evalT, evalE, evsIn, ev, callF, preF, hasF, needs, i0, b0, toI_int, toB_bool, List.getD_cons_zero, List.getD_cons_succ, List.cons_append, List.nil_append, List.replicate, if_true, if_false, Bool.false_eq_true, and_true, true_and, implies_true, forall_const, false_implies, cmpI, Bool.not_true, Bool.not_false, Bool.true_and, Bool.false_and, Bool.and_true, Bool.and_false, reduceIte, List.append_nil, reduceCtorEq]
        simp
        by_cases h1 : gcd3 a b c = 1
        · simp [h1]
        · rw [beq_eq_false_iff_ne.2 h1, beq_eq_false_iff_ne]
          omega

def tr_iFracValid : Tr :=
  (.evs [.call 0 [(.var 0), (.int .i64 (-2000000000)), (.int .i64 2000000000)] none 1,
    .call 0 [(.var 1), (.int .i64 (-2000000000)), (.int .i64 2000000000)] (some (.var 3)) 1,
    .call 0 [(.var 2), (.int .i64 1), (.int .i64 2000000000)] (some (.ite (.var 3) (.var 4) (.bool false))) 1,
    .call 2 [(.var 0)] (some (.ite (.ite (.var 3) (.var 4) (.bool false)) (.var 5) (.bool false))) 1,
    .call 2 [(.var 1)] (some (.ite (.ite (.var 3) (.var 4) (.bool false)) (.var 5) (.bool false))) 1,
    .call 1 [(.var 6), (.var 7)] (some (.ite (.ite (.var 3) (.var 4) (.bool false)) (.var 5) (.bool false))) 1,
    .call 1 [(.var 8), (.var 2)] (some (.ite (.ite (.var 3) (.var 4) (.bool false)) (.var 5) (.bool false))) 1]
  (.ret [(.ite (.ite (.ite (.var 3) (.var 4) (.bool false)) (.var 5) (.bool false)) (.cmp .eql (.var 9) (.int .i64 1)) (.bool false))]))
def Fs_iFracValid : List Fun1 := [G_within, F_divisor, F_size]
def F_iFracValid : Fun1 := ofTree Fs_iFracValid tr_iFracValid
def G_iFracValid : Fun1 := ⟨fun _ => True, fun ins => [.bool (validI (i0 ins 0) (i0 ins 1) (i0 ins 2))]⟩
theorem as_iFracValid (ins : List Value) (ht : TypedL [.int .i64, .int .i64, .int .i64] ins) (_ : G_iFracValid.pre ins) : F_iFracValid.pre ins ∧ F_iFracValid.out ins = G_iFracValid.out ins := by
  obtain ⟨a, b, c, rfl, wa, wb, wc⟩ := ints3 ht
  have key : inR a = true → inR b = true → inRg c 1 2000000000 = true → mxI false a (IntKind.i64.wrap (0 - a)) = a.natAbs ∧ mxI false b (IntKind.i64.wrap (0 - b)) = b.natAbs ∧
      euc (a.natAbs : Nat) (b.natAbs : Nat) = (Nat.gcd a.natAbs b.natAbs : Nat) ∧ euc (Nat.gcd a.natAbs b.natAbs : Nat) c = (gcd3 a b c : Nat) := by
    intro ha hb hc
    simp only [inR, inRg, Bool.and_eq_true, decide_eq_true_eq] at ha hb hc
    exact ⟨size_abs (by omega), size_abs (by omega), euc_nat _ _, by rw [euc_eq (by omega) (by omega)]; rfl⟩
  have r1 : ∀ z, inRg z (-2000000000) 2000000000 = inR z := fun _ => rfl
  cases ha : inR a
  · simp only [F_iFracValid, G_iFracValid, tr_iFracValid, Fs_iFracValid, G_within, F_divisor, F_size, tr_size, Fs_size, validI, arI, r1, ha, ofTree, okT, okE, evalT, evalE, evsIn, ev, callF, preF, hasF, needs, i0, b0, toI_int, toB_bool, List.getD_cons_zero, List.getD_cons_succ, List.cons_append, List.nil_append, List.replicate, if_true, if_false, Bool.false_eq_true, and_true, true_and, implies_true, forall_const, false_implies, cmpI, Bool.not_true, Bool.not_false, Bool.true_and, Bool.false_and, Bool.and_true, Bool.and_false, reduceIte, List.append_nil, reduceCtorEq]
  · cases hb : inR b
    · simp only [F_iFracValid, G_iFracValid, tr_iFracValid, Fs_iFracValid, G_within, F_divisor, F_size, tr_size, Fs_size, validI, arI, r1, ha, hb, ofTree, okT, okE, evalT, evalE, evsIn, ev, callF, preF, hasF, needs, i0, b0, toI_int, toB_bool, List.getD_cons_zero, List.getD_cons_succ, List.cons_append, List.nil_append, List.replicate, if_true, if_false, Bool.false_eq_true, and_true, true_and, implies_true, forall_const, false_implies, cmpI, Bool.not_true, Bool.not_false, Bool.true_and, Bool.false_and, Bool.and_true, Bool.and_false, reduceIte, List.append_nil, reduceCtorEq]
    · cases hc : inRg c 1 2000000000
      · simp only [F_iFracValid, G_iFracValid, tr_iFracValid, Fs_iFracValid, G_within, F_divisor, F_size, tr_size, Fs_size, validI, arI, r1, ha, hb, hc, ofTree, okT, okE, evalT, evalE, evsIn, ev, callF, preF, hasF, needs, i0, b0, toI_int, toB_bool, List.getD_cons_zero, List.getD_cons_succ, List.cons_append, List.nil_append, List.replicate, if_true, if_false, Bool.false_eq_true, and_true, true_and, implies_true, forall_const, false_implies, cmpI, Bool.not_true, Bool.not_false, Bool.true_and, Bool.false_and, Bool.and_true, Bool.and_false, reduceIte, List.append_nil, reduceCtorEq]
      · obtain ⟨k1, k2, k3, k4⟩ := key ha hb hc
        simp only [F_iFracValid, G_iFracValid, tr_iFracValid, Fs_iFracValid, G_within, F_divisor, F_size, tr_size, Fs_size, validI, arI, r1, ha, hb, hc, k1, k2, k3, k4, ofTree, okT, okE, evalT, evalE, evsIn, ev, callF, preF, hasF, needs, i0, b0, toI_int, toB_bool, List.getD_cons_zero, List.getD_cons_succ, List.cons_append, List.nil_append, List.replicate, if_true, if_false, Bool.false_eq_true, and_true, true_and, implies_true, forall_const, false_implies, cmpI, Bool.not_true, Bool.not_false, Bool.true_and, Bool.false_and, Bool.and_true, Bool.and_false, reduceIte, List.append_nil, reduceCtorEq]
        by_cases h1 : gcd3 a b c = 1
        · simp [h1]
        · have h2 : ((gcd3 a b c : Nat) : Int) ≠ 1 := by omega
          rw [beq_eq_false_iff_ne.2 h2, beq_eq_false_iff_ne.2 h1]

def tr_toFrac : Tr :=
  (.ret [(.var 0), (.var 1), (.var 2)])
def Fs_toFrac : List Fun1 := []
def F_toFrac : Fun1 := ofTree Fs_toFrac tr_toFrac

def tr_eqFrac : Tr :=
  (.ite (.cmp .neq (.var 0) (.var 3))
  (.ret [(.bool false)])
  (.ite (.cmp .neq (.var 1) (.var 4))
   (.ret [(.bool false)])
   (.ite (.cmp .neq (.var 2) (.var 5))
    (.ret [(.bool false)])
    (.ret [(.bool true)]))))
def Fs_eqFrac : List Fun1 := []
def F_eqFrac : Fun1 := ofTree Fs_eqFrac tr_eqFrac
def eqQ (a b : Q) : Bool := a.1 == b.1 && (a.2.1 == b.2.1 && a.2.2 == b.2.2)
def G_eqFrac : Fun1 := ⟨fun _ => True, fun ins => [.bool (eqQ (q3 ins 0) (q3 ins 3))]⟩
theorem as_eqFrac (ins : List Value) (ht : TypedL [.int .i64, .int .i64, .int .i64, .int .i64, .int .i64, .int .i64] ins) (_ : G_eqFrac.pre ins) : F_eqFrac.pre ins ∧ F_eqFrac.out ins = G_eqFrac.out ins := by
  obtain ⟨a, b, c, x, y, z, rfl, _⟩ := ints6 ht
  refine ⟨okT_free (fun F hF => by cases hF) _ _ (by kernel_rfl), ?_⟩
  simp only [F_eqFrac, G_eqFrac, tr_eqFrac, Fs_eqFrac, eqQ, q3, ofTree, okT, okE, evalT, evalE, evsIn, ev, callF, preF, hasF, needs, i0, b0, toI_int, toB_bool, List.getD_cons_zero, List.getD_cons_succ, List.cons_append, List.nil_append, List.replicate, if_true, if_false, Bool.false_eq_true, and_true, true_and, implies_true, forall_const, false_implies, cmpI, Bool.not_true, Bool.not_false, Bool.true_and, Bool.false_and, Bool.and_true, Bool.and_false, reduceIte, List.append_nil, reduceCtorEq]
  cases h1 : (a == x) <;> cases h2 : (b == y) <;> cases h3 : (c == z) <;> simp [bne, h1, h2, h3]
theorem eqQ_self (a : Q) : eqQ a a = true := by simp [eqQ]

def tr_szL : Tr :=
  (.ite (.cmp .lss (.ar .sub .i64 (.var 1) (.len (.var 0))) (.int .i64 0))
  (.ret [(.int .i64 (-1))])
  (.ret [(.ar .sub .i64 (.var 1) (.len (.var 0)))]))
def Fs_szL : List Fun1 := []
def F_szL : Fun1 := ofTree Fs_szL tr_szL
theorem szL_le {a : Option Addr} {n cap : Nat} (h : n ≤ 1048576) : F_szL.out [.slice a n cap, .int .i64 1048576] = [.int .i64 (1048576 - (n : Int))] := by
  have e : IntKind.i64.wrap (1048576 - (n : Int)) = 1048576 - n := wrap_in (by omega)
  have h2 : ¬ (1048576 - (n : Int) < 0) := by omega
  show (if toB (.bool (decide (IntKind.i64.wrap (1048576 - (n : Int)) < 0))) = true then [Value.int .i64 (-1)] else [.int .i64 (IntKind.i64.wrap (1048576 - (n : Int)))]) = _
  rw [e]
  simp [h2]
theorem szL_gt {a : Option Addr} {n cap : Nat} (h : ¬ n ≤ 1048576) (hn : n ≤ 9223372036854775807) : F_szL.out [.slice a n cap, .int .i64 1048576] = [.int .i64 (-1)] := by
  have e : IntKind.i64.wrap (1048576 - (n : Int)) = 1048576 - n := wrap_in (by omega)
  have h2 : (1048576 - (n : Int) < 0) := by omega
  show (if toB (.bool (decide (IntKind.i64.wrap (1048576 - (n : Int)) < 0))) = true then [Value.int .i64 (-1)] else [.int .i64 (IntKind.i64.wrap (1048576 - (n : Int)))]) = _
  rw [e]
  simp [h2]
theorem pre_szL (ins : List Value) : F_szL.pre ins := okT_free (fun F hF => by cases hF) _ _ (by kernel_rfl)
theorem szL_gen {a : Option Addr} {n cap : Nat} {L : Int} (h0 : 0 ≤ L) (h1 : L ≤ 1048576) (hn : n ≤ 9223372036854775807) : F_szL.out [.slice a n cap, .int .i64 L] = [.int .i64 (if (n : Int) ≤ L then L - n else -1)] := by
  have e : IntKind.i64.wrap (L - (n : Int)) = L - n := wrap_in (by omega)
  show (if toB (.bool (decide (IntKind.i64.wrap (L - (n : Int)) < 0))) = true then [Value.int .i64 (-1)] else [.int .i64 (IntKind.i64.wrap (L - (n : Int)))]) = _
  rw [e]
  by_cases h : (n : Int) ≤ L
  · have h2 : ¬ (L - (n : Int) < 0) := by omega
    simp [h, h2]
  · have h2 : (L - (n : Int) < 0) := by omega
    simp [h, h2]

def tr_toLayer : Tr :=
  (.evs [.call 0 [(.var 0), (.var 1), (.var 2)] none 3]
  (.ret [(.var 4), (.var 5), (.var 6), (.var 3)]))
def Fs_toLayer : List Fun1 := [F_toFrac]
def F_toLayer : Fun1 := ofTree Fs_toLayer tr_toLayer

def SP_toL : Spec := copySpec

def tr_eqLayer : Tr :=
  (.evs [.call 0 [(.var 0), (.var 1), (.var 2), (.var 4), (.var 5), (.var 6)] none 1]
  (.ite (.not (.var 8))
  (.ret [(.bool false)])
  (.ite (.cmp .neq (.var 3) (.var 7))
   (.ret [(.bool false)])
   (.ret [(.bool true)]))))
def Fs_eqLayer : List Fun1 := [G_eqFrac]
def F_eqLayer : Fun1 := ofTree Fs_eqLayer tr_eqLayer
def G_eqLayer : Fun1 := ⟨fun _ => True, fun ins => [.bool (eq4 (i0 ins 0) (i0 ins 1) (i0 ins 2) (i0 ins 3) (i0 ins 4) (i0 ins 5) (i0 ins 6) (i0 ins 7))]⟩
theorem as_eqLayer (ins : List Value) (ht : TypedL (intTs 8 ++ []) ins) (_ : G_eqLayer.pre ins) : F_eqLayer.pre ins ∧ F_eqLayer.out ins = G_eqLayer.out ins := by
  obtain ⟨g, r, rfl, h1, _⟩ := ints_lit 8 0 ht
  obtain rfl := ints0 h1
  rw [List.append_nil]
  refine ⟨okT_free (by intro F hF ins; simp only [Fs_eqLayer, List.mem_singleton] at hF; rw [hF]; trivial) _ _ (by kernel_rfl), ?_⟩
  simp only [ivs, F_eqLayer, G_eqLayer, tr_eqLayer, Fs_eqLayer, G_eqFrac, eqQ, q3, eq4, ofTree, okT, okE, evalT, evalE, evsIn, ev, callF, preF, hasF, needs, i0, b0, toI_int, toB_bool, List.getD_cons_zero, List.getD_cons_succ, List.cons_append, List.nil_append, List.replicate, if_true, if_false, Bool.false_eq_true, and_true, true_and, implies_true, forall_const, false_implies, cmpI, Bool.not_true, Bool.not_false, Bool.true_and, Bool.false_and, Bool.and_true, Bool.and_false, reduceIte, List.append_nil, reduceCtorEq]
  by_cases h0 : g 0 = g 4 <;> by_cases h1 : g 1 = g 5 <;> by_cases h2 : g 2 = g 6 <;> by_cases h3 : g 3 = g 7 <;> simp [h0, h1, h2, h3]

def tr_eqLayerS : Tr :=
  (.ite (.cmp .neq (.len (.var 0)) (.len (.var 1)))
  (.ret [(.bool false)])
  (.lp 0 [(.int .i64 0)] [.int .i64]
   (.ite (.cmp .lss (.var 4) (.len (.var 0)))
    (.evs [.need [(.inb (.var 2) (.var 4) 4), (.inb (.var 3) (.var 4) 4)],
       .need [(.inb (.var 2) (.var 4) 4), (.inb (.var 3) (.var 4) 4)],
       .call 0 [(.sel (.var 2) (.var 4) 4 0), (.sel (.var 2) (.var 4) 4 1), (.sel (.var 2) (.var 4) 4 2), (.sel (.var 2) (.var 4) 4 3), (.sel (.var 3) (.var 4) 4 0), (.sel (.var 3) (.var 4) 4 1), (.sel (.var 3) (.var 4) 4 2), (.sel (.var 3) (.var 4) 4 3)] none 1]
     (.ite (.not (.var 5))
     (.ret [(.bool false)])
     (.next 0 [(.ar .add .i64 (.var 4) (.int .i64 1))])))
    (.ret [(.bool true)]))))
def Fs_eqLayerS : List Fun1 := [G_eqLayer]
def F_eqLayerS : Fun1 := ⟨fun ins => Fit4 (ins.getD 0 undef) (ins.getD 2 undef) ∧ Fit4 (ins.getD 1 undef) (ins.getD 3 undef), fun ins => [.bool (rlen (ins.getD 0 undef) == rlen (ins.getD 1 undef) && allB (sameP (ins.getD 2 undef) (ins.getD 3 undef)) 0 (rlen (ins.getD 0 undef)))]⟩
theorem sat_eqLayerS (P : Program) (ins : List Value) (K : List Value → Prop) (ht : TypedL [.sl, .sl, .row .i64 4, .row .i64 4] ins) (hp : F_eqLayerS.pre ins) (hK : K (F_eqLayerS.out ins)) : sat P (specsOf Fs_eqLayerS) tr_eqLayerS ins [] K := by
  obtain ⟨x, y, c, d, rfl, hx, hy, hcT, hdT⟩ := four_of ht
  obtain ⟨h1, h2⟩ := hp
  obtain ⟨a, n, cap, rfl, hc, hn⟩ : Fit4 x c := h1
  obtain ⟨b, m, cap2, rfl, hd, hm⟩ : Fit4 y d := h2
  have hout : F_eqLayerS.out [.slice a n cap, .slice b m cap2, c, d] = [.bool (n == m && allB (sameP c d) 0 n)] := rfl
  rw [hout] at hK
  refine ⟨fun h => ?_, fun h => ?_⟩
  · have hne : (n == m) = false := by
      have h : (((n : Int)) != (m : Int)) = true := Value.bool.inj h
      simp only [bne_iff_ne, ne_eq, Int.natCast_inj] at h
      simpa using h
    rw [hne] at hK
    exact hK
  · have he : n = m := by
      have h : (((n : Int)) != (m : Int)) = false := Value.bool.inj h
      have h : (n : Int) = m := by simpa using h
      omega
    subst he
    refine ⟨fun vs => ∃ k : Nat, vs = [.int .i64 k] ∧ k ≤ n ∧ allB (sameP c d) 0 k = true, fun vs => n - (toI (vs.getD 0 undef)).toNat, ⟨0, rfl, Nat.zero_le _, rfl⟩, ?_⟩
    rintro vs hty ⟨k, rfl, hk, hall⟩
    refine ⟨fun h => ?_, fun h => ?_⟩
    · have hlt : k < n := by
        have : decide ((k : Int) < (n : Int)) = true := Value.bool.inj h
        simpa using this
      have hin := inb_ok hc hlt
      have hin2 := inb_ok hd hlt
      have hall2 : ∀ e ∈ ([.inb (.var 2) (.var 4) 4, .inb (.var 3) (.var 4) 4] : List Ex), ev ([.slice a n cap, .slice b n cap2, c, d] ++ [.int .i64 k]) e = .bool true := by
        intro e he
        simp only [List.mem_cons, List.not_mem_nil, or_false] at he
        rcases he with rfl | rfl
        · exact hin
        · exact hin2
      refine ⟨hall2, hall2, trivial, ?_⟩
      show sat P _ _ ([Value.slice a n cap, .slice b n cap2, c, d, .int .i64 k] ++ [.bool (sameP c d k)]) _ K
      cases hs : sameP c d k with
      | false =>
        refine ⟨fun _ => ?_, fun h2 => by cases h2⟩
        rw [allB_not hlt hs, Bool.and_false] at hK
        exact hK
      | true =>
        refine ⟨fun h2 => (by cases h2), fun _ => ?_⟩
        refine ⟨⟨k + 1, congrArg (fun z => [Value.int .i64 z]) (wrap_next hlt hn), by omega, ?_⟩, ?_⟩
        · rw [allB_snoc, hall, Nat.zero_add]; exact hs
        · show n - (toI (.int .i64 (IntKind.i64.wrap ((k : Int) + 1)))).toNat < n - (toI (.int .i64 (k : Int))).toNat
          rw [wrap_next hlt hn]
          simp only [toI_int, Int.toNat_natCast]
          omega
    · have hge : ¬ k < n := by
        have : decide ((k : Int) < (n : Int)) = false := Value.bool.inj h
        simpa using this
      have hkn : k = n := by omega
      subst hkn
      rw [hall, beq_self_eq_true, Bool.and_self] at hK
      exact hK

def tr_indexOk : Tr :=
  (.evs [.call 0 [(.var 0), (.var 1), (.var 2)] none 1]
  (.ret [(.ite (.var 3) (.not (.ite (.cmp .eql (.var 0) (.int .i64 0)) (.ite (.cmp .eql (.var 1) (.int .i64 0)) (.cmp .eql (.var 2) (.int .i64 1)) (.bool false)) (.bool false))) (.bool false))]))
def Fs_indexOk : List Fun1 := [G_iFracValid]
def F_indexOk : Fun1 := ofTree Fs_indexOk tr_indexOk
def G_indexOk : Fun1 := ⟨fun _ => True, fun ins => [.bool (idxQ (q3 ins 0))]⟩
theorem as_indexOk (ins : List Value) (ht : TypedL [.int .i64, .int .i64, .int .i64] ins) (_ : G_indexOk.pre ins) : F_indexOk.pre ins ∧ F_indexOk.out ins = G_indexOk.out ins := by
  obtain ⟨a, b, c, rfl, _⟩ := ints3 ht
  simp only [F_indexOk, G_indexOk, tr_indexOk, Fs_indexOk, G_iFracValid, idxQ, validQ, q3, ofTree, okT, okE, evalT, evalE, evsIn, ev, callF, preF, hasF, needs, i0, b0, toI_int, toB_bool, List.getD_cons_zero, List.getD_cons_succ, List.cons_append, List.nil_append, List.replicate, if_true, if_false, Bool.false_eq_true, and_true, true_and, implies_true, forall_const, false_implies, cmpI, Bool.not_true, Bool.not_false, Bool.true_and, Bool.false_and, Bool.and_true, Bool.and_false, reduceIte, List.append_nil, reduceCtorEq]
  cases h : validI a b c
  · simp
  · by_cases ha : a = 0
    · by_cases hb : b = 0
      · subst ha; subst hb
        simp [nil_den h]
      · simp [ha, hb]
    · simp [ha]

def tr_iFilmValid : Tr :=
  (.lp 0 [(.int .i64 0)] [.int .i64]
  (.ite (.cmp .lss (.var 2) (.len (.var 0)))
   (.evs [.need [(.inb (.var 1) (.var 2) 4)]]
    (.evs [.call 0 [(.sel (.var 1) (.var 2) 4 0), (.sel (.var 1) (.var 2) 4 1), (.sel (.var 1) (.var 2) 4 2)] none 1,
      .call 1 [(.sel (.var 1) (.var 2) 4 3), (.int .i64 0), (.int .i64 3)] (some (.not (.not (.var 3)))) 1]
    (.ite (.ite (.not (.var 3)) (.bool true) (.not (.var 4)))
    (.ret [(.bool false)])
    (.next 0 [(.ar .add .i64 (.var 2) (.int .i64 1))]))))
   (.ret [(.cmp .leq (.len (.var 0)) (.int .i64 8))])))
def Fs_iFilmValid : List Fun1 := [G_indexOk, G_within]
def layP (c : Value) (k : Nat) : Bool := idxQ (rq c k 0, rq c k 1, rq c k 2) && inRg (rq c k 3) 0 3
def F_iFilmValid : Fun1 := ⟨fun ins => Fit4 (ins.getD 0 undef) (ins.getD 1 undef), fun ins => [.bool (allB (layP (ins.getD 1 undef)) 0 (rlen (ins.getD 0 undef)) && decide (lenV (ins.getD 0 undef) ≤ 8))]⟩
theorem sat_iFilmValid (P : Program) (ins : List Value) (K : List Value → Prop) (ht : TypedL [.sl, .row .i64 4] ins) (hp : F_iFilmValid.pre ins) (hK : K (F_iFilmValid.out ins)) : sat P (specsOf Fs_iFilmValid) tr_iFilmValid ins [] K := by
  obtain ⟨x, c, rfl, hx, hcT⟩ := two_of ht
  obtain ⟨a, n, cap, rfl, hc, hn⟩ : Fit4 x c := hp
  refine ⟨fun vs => ∃ k : Nat, vs = [.int .i64 k] ∧ k ≤ n ∧ allB (layP c) 0 k = true, fun vs => n - (toI (vs.getD 0 undef)).toNat, ⟨0, rfl, Nat.zero_le _, rfl⟩, ?_⟩
  rintro vs hty ⟨k, rfl, hk, hall⟩
  refine ⟨fun h => ?_, fun h => ?_⟩
  · have hlt : k < n := by
      have : decide ((k : Int) < (n : Int)) = true := Value.bool.inj h
      simpa using this
    have hin := inb_ok hc hlt
    refine ⟨fun e he => by rw [List.mem_singleton.1 he]; exact hin, trivial, ?_⟩
    show evSat P _ _ ([Value.slice a n cap, c, .int .i64 k] ++ [.bool (idxQ (rq c k 0, rq c k 1, rq c k 2))]) _
    have bad : layP c k = false → K [.bool false] := fun hs => by
      have e : F_iFilmValid.out [.slice a n cap, c] = [.bool false] := by
        show [Value.bool (allB (layP c) 0 n && _)] = _
        rw [allB_not hlt hs, Bool.false_and]
      rw [e] at hK
      exact hK
    have hlay : layP c k = (idxQ (rq c k 0, rq c k 1, rq c k 2) && inRg (rq c k 3) 0 3) := rfl
    cases hi : idxQ (rq c k 0, rq c k 1, rq c k 2) with
    | false => exact ⟨fun h2 => (by cases h2), fun _ => ⟨fun _ => bad (by rw [hlay, hi]; rfl), fun h2 => (by cases h2)⟩⟩
    | true =>
      refine ⟨fun _ => ⟨trivial, ?_⟩, fun h2 => (by cases h2)⟩
      show sat P _ _ ([Value.slice a n cap, c, .int .i64 k, .bool true] ++ [.bool (inRg (rq c k 3) 0 3)]) _ K
      cases h3 : inRg (rq c k 3) 0 3 with
      | false => exact ⟨fun _ => bad (by rw [hlay, hi, h3]; rfl), fun h2 => (by cases h2)⟩
      | true =>
        have hs : layP c k = true := by rw [hlay, hi, h3]; rfl
        refine ⟨fun h2 => (by cases h2), fun _ => ?_⟩
        · refine ⟨⟨k + 1, congrArg (fun z => [Value.int .i64 z]) (wrap_next hlt hn), by omega, ?_⟩, ?_⟩
          · rw [allB_snoc, hall, Nat.zero_add]; exact hs
          · show n - (toI (.int .i64 (IntKind.i64.wrap ((k : Int) + 1)))).toNat < n - (toI (.int .i64 (k : Int))).toNat
            rw [wrap_next hlt hn]
            simp only [toI_int, Int.toNat_natCast]
            omega
  · have hge : ¬ k < n := by
      have : decide ((k : Int) < (n : Int)) = false := Value.bool.inj h
      simpa using this
    have hkn : k = n := by omega
    subst hkn
    have e : F_iFilmValid.out [.slice a k cap, c] = [.bool (decide ((k : Int) ≤ 8))] := by
      show [Value.bool (allB (layP c) 0 k && decide ((k : Int) ≤ 8))] = _
      rw [hall, Bool.true_and]
    rw [e] at hK
    exact hK

def tr_sFilmValid : Tr :=
  (.lp 0 [(.int .i64 0)] [.int .i64]
  (.ite (.cmp .lss (.var 2) (.len (.var 0)))
   (.evs [.need [(.inb (.var 1) (.var 2) 4)]]
    (.evs [.call 0 [(.sel (.var 1) (.var 2) 4 0), (.sel (.var 1) (.var 2) 4 1), (.sel (.var 1) (.var 2) 4 2)] none 1,
      .need [(.ite (.not (.ite (.not (.var 3)) (.bool true) (.ite (.cmp .eql (.sel (.var 1) (.var 2) 4 0) (.int .i64 0)) (.cmp .eql (.sel (.var 1) (.var 2) 4 1) (.int .i64 0)) (.bool false)))) (.inb (.var 1) (.var 2) 4) (.bool true))],
      .call 1 [(.sel (.var 1) (.var 2) 4 3), (.int .i64 0), (.int .i64 3)] (some (.not (.ite (.not (.var 3)) (.bool true) (.ite (.cmp .eql (.sel (.var 1) (.var 2) 4 0) (.int .i64 0)) (.cmp .eql (.sel (.var 1) (.var 2) 4 1) (.int .i64 0)) (.bool false))))) 1]
    (.ite (.ite (.ite (.not (.var 3)) (.bool true) (.ite (.cmp .eql (.sel (.var 1) (.var 2) 4 0) (.int .i64 0)) (.cmp .eql (.sel (.var 1) (.var 2) 4 1) (.int .i64 0)) (.bool false))) (.bool true) (.not (.var 4)))
    (.ret [(.bool false)])
    (.next 0 [(.ar .add .i64 (.var 2) (.int .i64 1))]))))
   (.ret [(.cmp .leq (.len (.var 0)) (.int .i64 8))])))
def Fs_sFilmValid : List Fun1 := [G_sFracValid, G_l6In]
def F_sFilmValid : Fun1 := F_iFilmValid
theorem sat_sFilmValid (P : Program) (ins : List Value) (K : List Value → Prop) (ht : TypedL [.sl, .row .i64 4] ins) (hp : F_sFilmValid.pre ins) (hK : K (F_sFilmValid.out ins)) : sat P (specsOf Fs_sFilmValid) tr_sFilmValid ins [] K := by
  obtain ⟨x, c, rfl, hx, hcT⟩ := two_of ht
  obtain ⟨a, n, cap, rfl, hc, hn⟩ : Fit4 x c := hp
  refine ⟨fun vs => ∃ k : Nat, vs = [.int .i64 k] ∧ k ≤ n ∧ allB (layP c) 0 k = true, fun vs => n - (toI (vs.getD 0 undef)).toNat, ⟨0, rfl, Nat.zero_le _, rfl⟩, ?_⟩
  rintro vs hty ⟨k, rfl, hk, hall⟩
  refine ⟨fun h => ?_, fun h => ?_⟩
  · have hlt : k < n := by
      have : decide ((k : Int) < (n : Int)) = true := Value.bool.inj h
      simpa using this
    have hin := inb_ok hc hlt
    refine ⟨fun e he => by rw [List.mem_singleton.1 he]; exact hin, trivial, ?_⟩
    show evSat P _ _ ([Value.slice a n cap, c, .int .i64 k] ++ [.bool (validQ (rq c k 0, rq c k 1, rq c k 2))]) _
    have bad : layP c k = false → K [.bool false] := fun hs => by
      have e : F_sFilmValid.out [.slice a n cap, c] = [.bool false] := by
        show [Value.bool (allB (layP c) 0 n && _)] = _
        rw [allB_not hlt hs, Bool.false_and]
      rw [e] at hK
      exact hK
    have hlay : layP c k = (idxQ (rq c k 0, rq c k 1, rq c k 2) && inRg (rq c k 3) 0 3) := rfl
    have hidx : idxQ (rq c k 0, rq c k 1, rq c k 2) = (validQ (rq c k 0, rq c k 1, rq c k 2) && !(rq c k 0 == 0 && rq c k 1 == 0)) := rfl
    cases hv : validQ (rq c k 0, rq c k 1, rq c k 2) with
    | false =>
      refine ⟨fun e he => by rw [List.mem_singleton.1 he]; rfl, ⟨fun h2 => (by cases h2), fun _ => ?_⟩⟩
      exact ⟨fun _ => bad (by rw [hlay, hidx, hv]; rfl), fun h2 => (by cases h2)⟩
    | true =>
      refine ⟨fun e he => ?_, ⟨fun h2 => ⟨trivial, ?_⟩, fun h2 => ?_⟩⟩
      · rw [List.mem_singleton.1 he]
        show (if (!andB (rq c k 0 == 0) (rq c k 1 == 0)) = true then _ else Value.bool true) = _
        split
        · exact hin
        · rfl
      · have h2 : (!andB (rq c k 0 == 0) (rq c k 1 == 0)) = true := h2
        rw [andB_eq] at h2
        have hz : (rq c k 0 == 0 && rq c k 1 == 0) = false := by
          cases hq : (rq c k 0 == 0 && rq c k 1 == 0) with
          | false => rfl
          | true => rw [hq] at h2; cases h2
        have hi : idxQ (rq c k 0, rq c k 1, rq c k 2) = true := by rw [hidx, hv, hz]; rfl
        show sat P _ _ ([Value.slice a n cap, c, .int .i64 k, .bool true] ++ [.bool (inRg (rq c k 3) 0 3)]) _ K
        have hc2 : ∀ x : Bool, toB (ev ([Value.slice a n cap, c, .int .i64 k, .bool true] ++ [.bool x]) (.ite (.ite (.not (.var 3)) (.bool true) (.ite (.cmp .eql (.sel (.var 1) (.var 2) 4 0) (.int .i64 0)) (.cmp .eql (.sel (.var 1) (.var 2) 4 1) (.int .i64 0)) (.bool false))) (.bool true) (.not (.var 4)))) = !x := fun x => by
          show toB (if andB (rq c k 0 == 0) (rq c k 1 == 0) = true then Value.bool true else .bool (!x)) = !x
          rw [andB_eq, hz]
          rfl
        cases h3 : inRg (rq c k 3) 0 3 with
        | false =>
          refine ⟨fun _ => bad (by rw [hlay, hi, h3]; rfl), fun h4 => ?_⟩
          have := hc2 false
          rw [h4] at this
          cases this
        | true =>
          have hs : layP c k = true := by rw [hlay, hi, h3]; rfl
          refine ⟨fun h4 => ?_, fun _ => ?_⟩
          · have := hc2 true
            rw [h4] at this
            cases this
          · refine ⟨⟨k + 1, congrArg (fun z => [Value.int .i64 z]) (wrap_next hlt hn), by omega, ?_⟩, ?_⟩
            · rw [allB_snoc, hall, Nat.zero_add]; exact hs
            · show n - (toI (.int .i64 (IntKind.i64.wrap ((k : Int) + 1)))).toNat < n - (toI (.int .i64 (k : Int))).toNat
              rw [wrap_next hlt hn]
              simp only [toI_int, Int.toNat_natCast]
              omega
      · have h2 : (!andB (rq c k 0 == 0) (rq c k 1 == 0)) = false := h2
        rw [andB_eq] at h2
        have hz : (rq c k 0 == 0 && rq c k 1 == 0) = true := by
          cases hq : (rq c k 0 == 0 && rq c k 1 == 0) with
          | true => rfl
          | false => rw [hq] at h2; cases h2
        refine ⟨fun _ => bad (by rw [hlay, hidx, hv, hz]; rfl), fun h4 => ?_⟩
        exfalso
        have h4 : toB (if andB (rq c k 0 == 0) (rq c k 1 == 0) = true then Value.bool true else .bool (!toB undef)) = false := congrArg toB h4
        rw [andB_eq, hz] at h4
        cases h4
  · have hge : ¬ k < n := by
      have : decide ((k : Int) < (n : Int)) = false := Value.bool.inj h
      simpa using this
    have hkn : k = n := by omega
    subst hkn
    have e : F_sFilmValid.out [.slice a k cap, c] = [.bool (decide ((k : Int) ≤ 8))] := by
      show [Value.bool (allB (layP c) 0 k && decide ((k : Int) ≤ 8))] = _
      rw [hall, Bool.true_and]
    rw [e] at hK
    exact hK

def tr_sFilmBack : Tr :=
  (.evs [.app (.val (.agg #[])) 4 (.cells [])]
  (.evs [.call 0 [(.var 0), (.var 1)] none 1]
  (.ite (.not (.var 4))
  (.ret [(.var 2), (.bool false), (.val (.agg #[]))])
  (.lp 0 [(.var 2), (.ar .sub .i64 (.len (.var 0)) (.int .i64 1)), (.val (.agg #[]))] [.sl, .int .i64, .row .i64 4]
   (.ite (.cmp .geq (.var 6) (.int .i64 0))
    (.evs [.need [(.inb (.var 1) (.var 6) 4)],
       .app (.var 7) 4 (.cells [(.sel (.var 1) (.var 6) 4 0), (.sel (.var 1) (.var 6) 4 1), (.sel (.var 1) (.var 6) 4 2), (.sel (.var 1) (.var 6) 4 3)])]
     (.next 0 [(.var 8), (.ar .sub .i64 (.var 6) (.int .i64 1)), (.var 9)]))
    (.ret [(.var 5), (.bool true), (.var 7)]))))))
def Fs_sFilmBack : List Fun1 := [F_sFilmValid]
-- part backspec
def backSpec : Spec := fun ins K => Fit4 (ins.getD 0 undef) (ins.getD 1 undef) ∧
  ((allB (layP (ins.getD 1 undef)) 0 (rlen (ins.getD 0 undef)) && decide (lenV (ins.getD 0 undef) ≤ 8)) = true → ∀ a cap, K [.slice a (rlen (ins.getD 0 undef)) cap, .bool true, revR (ins.getD 1 undef) (rlen (ins.getD 0 undef))]) ∧
  ((allB (layP (ins.getD 1 undef)) 0 (rlen (ins.getD 0 undef)) && decide (lenV (ins.getD 0 undef) ≤ 8)) = false → ∀ a cap, K [.slice a 0 cap, .bool false, .agg #[]])
theorem back_small {c : Value} {n : Nat} (h : (allB (layP c) 0 n && decide ((n : Int) ≤ 8)) = true) : n ≤ 8 := by
  rw [Bool.and_eq_true, decide_eq_true_eq] at h
  omega
def SP_sFilmBack : Spec := backSpec
theorem sat_sFilmBack (P : Program) (ins : List Value) (K : List Value → Prop) (ht : TypedL [.sl, .row .i64 4] ins) (h : SP_sFilmBack ins K) : sat P (specsOf Fs_sFilmBack) tr_sFilmBack ins [] K := by
  obtain ⟨x, c, rfl, hx, hcT⟩ := two_of ht
  obtain ⟨hf, h1, h0⟩ := h
  obtain ⟨a, n, cap, rfl, hc, hnn⟩ : Fit4 x c := hf
  have h1 : (allB (layP c) 0 n && decide ((n : Int) ≤ 8)) = true → ∀ a cap, K [.slice a n cap, .bool true, revR c n] := h1
  have h0 : (allB (layP c) 0 n && decide ((n : Int) ≤ 8)) = false → ∀ a cap, K [.slice a 0 cap, .bool false, .agg #[]] := h0
  refine app_empty (by omega) fun a2 cap2 => ?_
  refine ⟨⟨a, n, cap, rfl, hc, hnn⟩, ?_⟩
  show sat P _ _ ([Value.slice a n cap, c, .slice a2 0 cap2, .agg #[]] ++ [.bool (allB (layP c) 0 n && decide ((n : Int) ≤ 8))]) _ K
  cases hV : (allB (layP c) 0 n && decide ((n : Int) ≤ 8)) with
  | false => exact ⟨fun _ => h0 hV a2 cap2, fun h => (by cases h)⟩
  | true =>
    refine ⟨fun h => (by cases h), fun _ => ?_⟩
    have hn := back_small hV
    refine rev_loop (env := [.slice a n cap, c, .slice a2 0 cap2, .agg #[], .bool true]) (R := [.var 5, .bool true, .var 7]) (c := c) (n := n) rfl (by simp) hc (by omega) (a0 := a2) (cap0 := cap2) ?_ (fun b cp => h1 hV b cp)
    have hw : IntKind.i64.wrap ((n : Int) - 1) = (n : Int) - 1 := wrap_in (by omega)
    show [Value.slice a2 0 cap2, .int .i64 (IntKind.i64.wrap ((n : Int) - 1)), .agg #[]] = _
    rw [hw]

def tr_revLo : Tr :=
  (.evs [.app (.val (.agg #[])) 4 (.cells [])]
  (.lp 0 [(.var 2), (.ar .sub .i64 (.len (.var 0)) (.int .i64 1)), (.val (.agg #[]))] [.sl, .int .i64, .row .i64 4]
  (.ite (.cmp .geq (.var 5) (.int .i64 0))
   (.evs [.need [(.inb (.var 1) (.var 5) 4)],
      .app (.var 6) 4 (.cells [(.sel (.var 1) (.var 5) 4 0), (.sel (.var 1) (.var 5) 4 1), (.sel (.var 1) (.var 5) 4 2), (.sel (.var 1) (.var 5) 4 3)])]
    (.next 0 [(.var 7), (.ar .sub .i64 (.var 5) (.int .i64 1)), (.var 8)]))
   (.ret [(.var 4), (.var 6)]))))
def Fs_revLo : List Fun1 := []
def SP_revLo : Spec := revSpec
theorem sat_revLo (P : Program) (ins : List Value) (K : List Value → Prop) (ht : TypedL [.sl, .row .i64 4] ins) (h : SP_revLo ins K) : sat P (specsOf Fs_revLo) tr_revLo ins [] K := by
  obtain ⟨x, c, rfl, hx, hcT⟩ := two_of ht
  obtain ⟨hf, hn, hK⟩ := h
  obtain ⟨a, n, cap, rfl, hc, hnn⟩ : Fit4 x c := hf
  have hn : n ≤ 1048576 := hn
  refine app_empty (by omega) fun a2 cap2 => ?_
  refine rev_loop (env := [.slice a n cap, c, .slice a2 0 cap2, .agg #[]]) (R := [.var 4, .var 6]) (c := c) (n := n) rfl (by simp) hc hn (a0 := a2) (cap0 := cap2) ?_ (fun b cp => hK b cp)
  have hw : IntKind.i64.wrap ((n : Int) - 1) = (n : Int) - 1 := wrap_in (by omega)
  show [Value.slice a2 0 cap2, .int .i64 (IntKind.i64.wrap ((n : Int) - 1)), .agg #[]] = _
  rw [hw]

def tr_iFilmBackO : Tr :=
  (.evs [.call 0 [(.var 0), (.var 1)] none 1]
  (.ite (.not (.var 2))
  (.evs [.app (.val (.agg #[])) 4 (.cells [])]
   (.ret [(.var 3), (.bool false), (.val (.agg #[]))]))
  (.evs [.call 1 [(.var 0), (.var 1)] none 2]
   (.ret [(.var 3), (.bool true), (.var 4)]))))
def Ss_iFilmBackO : List Spec := [F_iFilmValid.spec, SP_revLo]
def SP_iFilmBackO : Spec := backSpec
theorem sat_iFilmBackO (P : Program) (ins : List Value) (K : List Value → Prop) (ht : TypedL [.sl, .row .i64 4] ins) (h : SP_iFilmBackO ins K) : sat P Ss_iFilmBackO tr_iFilmBackO ins [] K := by
  obtain ⟨x, c, rfl, hx, hcT⟩ := two_of ht
  obtain ⟨hf, h1, h0⟩ := h
  obtain ⟨a, n, cap, rfl, hc, hnn⟩ : Fit4 x c := hf
  have h1 : (allB (layP c) 0 n && decide ((n : Int) ≤ 8)) = true → ∀ a cap, K [.slice a n cap, .bool true, revR c n] := h1
  have h0 : (allB (layP c) 0 n && decide ((n : Int) ≤ 8)) = false → ∀ a cap, K [.slice a 0 cap, .bool false, .agg #[]] := h0
  refine ⟨⟨a, n, cap, rfl, hc, hnn⟩, ?_⟩
  show sat P _ _ ([Value.slice a n cap, c] ++ [.bool (allB (layP c) 0 n && decide ((n : Int) ≤ 8))]) _ K
  cases hV : (allB (layP c) 0 n && decide ((n : Int) ≤ 8)) with
  | false =>
    refine ⟨fun _ => ?_, fun h => (by cases h)⟩
    refine app_empty (by omega) fun a2 cap2 => ?_
    exact h0 hV a2 cap2
  | true =>
    refine ⟨fun h => (by cases h), fun _ => ?_⟩
    refine ⟨⟨a, n, cap, rfl, hc, hnn⟩, ?_, fun a2 cap2 => ?_⟩
    · show n ≤ 1048576
      have := back_small hV
      omega
    · exact h1 hV a2 cap2

def tr_heldL : Tr :=
  (.lp 0 [(.int .i64 0), (.var 1)] [.int .i64, .int .i64]
  (.ite (.cmp .lss (.var 3) (.len (.var 0)))
   (.evs [.need [(.inb (.var 2) (.var 3) 4)]]
    (.ite (.cmp .neq (.sel (.var 2) (.var 3) 4 0) (.var 4))
    (.ret [(.int .i64 (-1))])
    (.evs [.need [(.inb (.var 2) (.var 3) 4)]]
     (.ite (.cmp .neq (.sel (.var 2) (.var 3) 4 1) (.ar .add .i64 (.var 4) (.int .i64 1)))
     (.ret [(.int .i64 (-1))])
     (.evs [.need [(.inb (.var 2) (.var 3) 4)]]
      (.ite (.cmp .neq (.sel (.var 2) (.var 3) 4 2) (.ar .add .i64 (.ar .add .i64 (.var 4) (.int .i64 1)) (.int .i64 1)))
      (.ret [(.int .i64 (-1))])
      (.evs [.need [(.inb (.var 2) (.var 3) 4)]]
       (.ite (.cmp .neq (.sel (.var 2) (.var 3) 4 3) (.ar .add .i64 (.ar .add .i64 (.ar .add .i64 (.var 4) (.int .i64 1)) (.int .i64 1)) (.int .i64 1)))
       (.ret [(.int .i64 (-1))])
       (.next 0 [(.ar .add .i64 (.var 3) (.int .i64 1)), (.ar .add .i64 (.ar .add .i64 (.ar .add .i64 (.ar .add .i64 (.var 4) (.int .i64 1)) (.int .i64 1)) (.int .i64 1)) (.int .i64 1))])))))))))
   (.ret [(.var 4)])))
def Fs_heldL : List Fun1 := []
def F_heldL : Fun1 := ⟨fun ins => Fit4 (ins.getD 0 undef) (ins.getD 2 undef) ∧ rlen (ins.getD 0 undef) ≤ 1048576 ∧ (0 ≤ i0 ins 1 ∧ i0 ins 1 ≤ 100) ∧ ∀ k, k < rlen (ins.getD 0 undef) → ∀ j, j < 4 → rq (ins.getD 2 undef) k j = i0 ins 1 + 4 * k + j, fun ins => [.int .i64 (i0 ins 1 + 4 * (rlen (ins.getD 0 undef) : Int))]⟩
theorem sat_heldL (P : Program) (ins : List Value) (K : List Value → Prop) (ht : TypedL [.sl, .int .i64, .row .i64 4] ins) (hp : F_heldL.pre ins) (hK : K (F_heldL.out ins)) : sat P (specsOf Fs_heldL) tr_heldL ins [] K := by
  obtain ⟨x, r, rfl, hx, ht1⟩ := TypedL_cons ht
  obtain ⟨z, r, rfl, _, ht2⟩ := int_cons ht1
  obtain ⟨c, r, rfl, hc, ht3⟩ := TypedL_cons ht2
  obtain rfl := TypedL_nil ht3
  obtain ⟨hf, hle, hz, hr⟩ := hp
  obtain ⟨a, n, cap, rfl, hcs, hn⟩ : Fit4 x c := hf
  have hle : n ≤ 1048576 := hle
  have hz : 0 ≤ z ∧ z ≤ 100 := hz
  have hr : ∀ k, k < n → ∀ j, j < 4 → rq c k j = z + 4 * k + j := hr
  have hK : K [.int .i64 (z + 4 * (n : Int))] := hK
  refine ⟨fun vs => ∃ k : Nat, k ≤ n ∧ vs = [.int .i64 k, .int .i64 (z + 4 * (k : Int))], fun vs => n - (toI (vs.getD 0 undef)).toNat, ⟨0, Nat.zero_le _, by show [Value.int .i64 0, Value.int .i64 z] = _; simp⟩, ?_⟩
  rintro vs hty ⟨k, hk, rfl⟩
  refine sat_ite (b := decide ((k : Int) < (n : Int))) rfl (fun h => ?_) (fun h => ?_)
  · have hlt : k < n := by simpa using h
    have hin := inb_ok hcs hlt
    have w1 : ∀ y : Int, 0 ≤ y → y ≤ 5000000 → IntKind.i64.wrap (y + 1) = y + 1 := fun y h1 h2 => wrap_in (by omega)
    have e1 : IntKind.i64.wrap (z + 4 * (k : Int) + 1) = z + 4 * (k : Int) + 1 := w1 _ (by omega) (by omega)
    have e2 : IntKind.i64.wrap (z + 4 * (k : Int) + 1 + 1) = z + 4 * (k : Int) + 2 := by rw [w1 _ (by omega) (by omega)]; omega
    have e3 : IntKind.i64.wrap (z + 4 * (k : Int) + 2 + 1) = z + 4 * (k : Int) + 3 := by rw [w1 _ (by omega) (by omega)]; omega
    have e4 : IntKind.i64.wrap (z + 4 * (k : Int) + 3 + 1) = z + 4 * ((k + 1 : Nat) : Int) := by rw [w1 _ (by omega) (by omega)]; omega
    have r0 := hr k hlt 0 (by omega)
    have r1 := hr k hlt 1 (by omega)
    have r2 := hr k hlt 2 (by omega)
    have r3 := hr k hlt 3 (by omega)
    refine evs_step ⟨fun e he => by rw [List.mem_singleton.1 he]; exact hin, evs_nil ?_⟩
    refine sat_ite0 (by show Value.bool (rq c k 0 != z + 4 * (k : Int)) = _; rw [r0]; simp) ?_
    refine evs_step ⟨fun e he => by rw [List.mem_singleton.1 he]; exact hin, evs_nil ?_⟩
    refine sat_ite0 (by show Value.bool (rq c k 1 != IntKind.i64.wrap (z + 4 * (k : Int) + 1)) = _; rw [e1, r1]; simp) ?_
    refine evs_step ⟨fun e he => by rw [List.mem_singleton.1 he]; exact hin, evs_nil ?_⟩
    refine sat_ite0 (by show Value.bool (rq c k 2 != IntKind.i64.wrap (IntKind.i64.wrap (z + 4 * (k : Int) + 1) + 1)) = _; rw [e1, e2, r2]; simp) ?_
    refine evs_step ⟨fun e he => by rw [List.mem_singleton.1 he]; exact hin, evs_nil ?_⟩
    refine sat_ite0 (by show Value.bool (rq c k 3 != IntKind.i64.wrap (IntKind.i64.wrap (IntKind.i64.wrap (z + 4 * (k : Int) + 1) + 1) + 1)) = _; rw [e1, e2, e3, r3]; simp) ?_
    show (∃ k' : Nat, k' ≤ n ∧ [Value.int .i64 (IntKind.i64.wrap ((k : Int) + 1)), .int .i64 (IntKind.i64.wrap (IntKind.i64.wrap (IntKind.i64.wrap (IntKind.i64.wrap (z + 4 * (k : Int) + 1) + 1) + 1) + 1))] = [.int .i64 k', .int .i64 (z + 4 * (k' : Int))]) ∧ n - (toI (.int .i64 (IntKind.i64.wrap ((k : Int) + 1)))).toNat < n - (toI (.int .i64 (k : Int))).toNat
    rw [e1, e2, e3, e4, wrap_next hlt hn]
    refine ⟨⟨k + 1, by omega, rfl⟩, ?_⟩
    simp only [toI_int, Int.toNat_natCast]
    omega
  · have hge : ¬ k < n := by simpa using h
    obtain rfl : k = n := by omega
    exact hK



def F_FnExactFilmBack : Fun1 := ⟨fun ins => Fit4 (ins.getD 0 undef) (ins.getD 1 undef), fun _ => [.bool true]⟩
theorem law_FnExactFilmBack (ins : List Value) (h : Fit4 (ins.getD 0 undef) (ins.getD 1 undef)) : F_FnExactFilmBack.pre ins ∧ F_FnExactFilmBack.out ins = [.bool true] := ⟨h, rfl⟩

end Go.Sx

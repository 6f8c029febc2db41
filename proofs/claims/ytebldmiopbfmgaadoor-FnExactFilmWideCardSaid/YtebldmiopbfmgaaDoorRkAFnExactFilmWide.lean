/- What the functions reckon, by their trees. -/
import Derived.Test.YtebldmiopbfmgaaDoorEg
import Derived.KernelRfl
namespace Go.Sx
open Go
set_option maxRecDepth 100000
set_option linter.unusedSimpArgs false
set_option linter.unusedVariables false

def tr_size : Tr :=
  (.ret [(.mx false .i64 (.var 0) (.ar .sub .i64 (.int .i64 0) (.var 0)))])
def Fs_size : List Fun1 := []
def F_size : Fun1 := ofTree Fs_size tr_size

def tr_within : Tr :=
  (.ret [(.ite (.cmp .geq (.var 0) (.var 1)) (.cmp .leq (.var 0) (.var 2)) (.bool false))])
def Fs_within : List Fun1 := []
def F_within : Fun1 := ofTree Fs_within tr_within
def G_within : Fun1 := ⟨fun _ => True, fun ins => [.bool (inRg (i0 ins 0) (i0 ins 1) (i0 ins 2))]⟩
theorem as_within (ins : List Value) (ht : TypedL [.int .i64, .int .i64, .int .i64] ins) (_ : G_within.pre ins) : F_within.pre ins ∧ F_within.out ins = G_within.out ins := by
  obtain ⟨a, b, c, rfl, _, _, _⟩ := ints3 ht
  refine ⟨trivial, ?_⟩
  show [if (decide (a ≥ b)) = true then Value.bool (decide (a ≤ c)) else Value.bool false] = [Value.bool (decide (b ≤ a) && decide (a ≤ c))]
  by_cases h : b ≤ a <;> simp [h]

def tr_l6In : Tr :=
  (.ret [(.ite (.cmp .geq (.var 0) (.var 1)) (.cmp .leq (.var 0) (.var 2)) (.bool false))])
def Fs_l6In : List Fun1 := []
def F_l6In : Fun1 := ofTree Fs_l6In tr_l6In
def G_l6In : Fun1 := ⟨fun _ => True, fun ins => [.bool (inRg (i0 ins 0) (i0 ins 1) (i0 ins 2))]⟩
theorem as_l6In (ins : List Value) (ht : TypedL [.int .i64, .int .i64, .int .i64] ins) (_ : G_l6In.pre ins) : F_l6In.pre ins ∧ F_l6In.out ins = G_l6In.out ins := by
  obtain ⟨a, b, c, rfl, _, _, _⟩ := ints3 ht
  refine ⟨trivial, ?_⟩
  show [if (decide (a ≥ b)) = true then Value.bool (decide (a ≤ c)) else Value.bool false] = [Value.bool (decide (b ≤ a) && decide (a ≤ c))]
  by_cases h : b ≤ a <;> simp [h]

def tr_l2In : Tr :=
  (.evs [.call 0 [(.var 0), (.int .i64 (-2000000000)), (.int .i64 2000000000)] none 1]
  (.ret [(.var 1)]))
def Fs_l2In : List Fun1 := [G_l6In]
def F_l2In : Fun1 := ofTree Fs_l2In tr_l2In
def G_l2In : Fun1 := ⟨fun _ => True, fun ins => [.bool (inR (i0 ins 0))]⟩
theorem as_l2In (ins : List Value) (ht : TypedL [.int .i64] ins) (_ : G_l2In.pre ins) : F_l2In.pre ins ∧ F_l2In.out ins = G_l2In.out ins := by
  obtain ⟨a, rfl, _⟩ := ints1 ht
  exact ⟨⟨⟨trivial, trivial⟩, trivial⟩, rfl⟩

def tr_divisor : Tr :=
  (.lp 0 [(.var 0), (.var 1)] [.int .i64, .int .i64]
  (.ite (.cmp .neq (.var 3) (.int .i64 0))
   (.evs [.need [(.cmp .neq (.var 3) (.int .i64 0))]]
    (.next 0 [(.var 3), (.ar .rem .i64 (.var 2) (.var 3))]))
   (.ret [(.var 2)])))
def Fs_divisor : List Fun1 := []
def F_divisor : Fun1 := ⟨fun _ => True, fun ins => [.int .i64 (euc (i0 ins 0) (i0 ins 1))]⟩
theorem sat_divisor (P : Program) (ins : List Value) (K : List Value → Prop) (ht : TypedL [.int .i64, .int .i64] ins) (_ : F_divisor.pre ins) (hK : K (F_divisor.out ins)) : sat P (specsOf Fs_divisor) tr_divisor ins [] K := by
  obtain ⟨a, b, rfl, wa, wb⟩ := ints2 ht
  refine ⟨fun vs => ∃ x y, vs = [.int .i64 x, .int .i64 y] ∧ euc x y = euc a b, fun vs => (toI (vs.getD 1 undef)).natAbs, ⟨a, b, rfl, rfl⟩, ?_⟩
  rintro vs hty ⟨x, y, rfl, he⟩
  refine ⟨fun hc => ?_, fun hc => ?_⟩
  · have hy : y ≠ 0 := by simpa [ev, cmpI] using hc
    refine ⟨fun e he' => by rw [List.mem_singleton.1 he']; exact hc, ⟨_, _, rfl, ?_⟩, ?_⟩
    · rw [← he, euc_step hy]; rfl
    · show (x.tmod y).natAbs < y.natAbs
      rw [Int.natAbs_tmod]
      exact Nat.mod_lt _ (by omega)
  · have hy : y = 0 := by simpa [ev, cmpI] using hc
    subst hy
    rw [euc_zero] at he
    show K [.int .i64 x]
    rw [he]
    exact hK

def tr_l2Gcd : Tr :=
  (.lp 0 [(.var 0), (.var 1)] [.int .i64, .int .i64]
  (.ite (.cmp .neq (.var 3) (.int .i64 0))
   (.evs [.need [(.cmp .neq (.var 3) (.int .i64 0))]]
    (.next 0 [(.var 3), (.ar .rem .i64 (.var 2) (.var 3))]))
   (.ret [(.mx false .i64 (.var 2) (.ar .sub .i64 (.int .i64 0) (.var 2)))])))
def Fs_l2Gcd : List Fun1 := []
def F_l2Gcd : Fun1 := ⟨fun _ => True, fun ins => [.int .i64 (mxI false (euc (i0 ins 0) (i0 ins 1)) (IntKind.i64.wrap (0 - euc (i0 ins 0) (i0 ins 1))))]⟩
theorem sat_l2Gcd (P : Program) (ins : List Value) (K : List Value → Prop) (ht : TypedL [.int .i64, .int .i64] ins) (_ : F_l2Gcd.pre ins) (hK : K (F_l2Gcd.out ins)) : sat P (specsOf Fs_l2Gcd) tr_l2Gcd ins [] K := by
  obtain ⟨a, b, rfl, wa, wb⟩ := ints2 ht
  refine ⟨fun vs => ∃ x y, vs = [.int .i64 x, .int .i64 y] ∧ euc x y = euc a b, fun vs => (toI (vs.getD 1 undef)).natAbs, ⟨a, b, rfl, rfl⟩, ?_⟩
  rintro vs hty ⟨x, y, rfl, he⟩
  refine ⟨fun hc => ?_, fun hc => ?_⟩
  · have hy : y ≠ 0 := by simpa [ev, cmpI] using hc
    refine ⟨fun e he' => by rw [List.mem_singleton.1 he']; exact hc, ⟨_, _, rfl, ?_⟩, ?_⟩
    · rw [← he, euc_step hy]; rfl
    · show (x.tmod y).natAbs < y.natAbs
      rw [Int.natAbs_tmod]
      exact Nat.mod_lt _ (by omega)
  · have hy : y = 0 := by simpa [ev, cmpI] using hc
    subst hy
    rw [euc_zero] at he
    show K [.int .i64 (mxI false x (IntKind.i64.wrap (0 - x)))]
    rw [he]
    exact hK

def tr_sFracValid : Tr :=
  (.evs [.call 0 [(.var 0)] none 1,
    .call 0 [(.var 1)] (some (.var 3)) 1,
    .call 1 [(.var 2), (.int .i64 1), (.int .i64 2000000000)] (some (.ite (.var 3) (.var 4) (.bool false))) 1,
    .call 2 [(.var 2), (.var 0)] (some (.ite (.ite (.var 3) (.var 4) (.bool false)) (.var 5) (.bool false))) 1,
    .call 2 [(.var 6), (.var 1)] (some (.ite (.ite (.var 3) (.var 4) (.bool false)) (.var 5) (.bool false))) 1]
  (.ret [(.ite (.ite (.ite (.var 3) (.var 4) (.bool false)) (.var 5) (.bool false)) (.cmp .eql (.var 7) (.int .i64 1)) (.bool false))]))
def Fs_sFracValid : List Fun1 := [G_l2In, G_l6In, F_l2Gcd]
def F_sFracValid : Fun1 := ofTree Fs_sFracValid tr_sFracValid
def G_sFracValid : Fun1 := ⟨fun _ => True, fun ins => [.bool (validI (i0 ins 0) (i0 ins 1) (i0 ins 2))]⟩
theorem as_sFracValid (ins : List Value) (ht : TypedL [.int .i64, .int .i64, .int .i64] ins) (_ : G_sFracValid.pre ins) : F_sFracValid.pre ins ∧ F_sFracValid.out ins = G_sFracValid.out ins := by
  obtain ⟨a, b, c, rfl, wa, wb, wc⟩ := ints3 ht
  have key : inR a = true → inR b = true → inRg c 1 2000000000 = true → mxI false (euc c a) (IntKind.i64.wrap (0 - euc c a)) = (Nat.gcd c.natAbs a.natAbs : Nat) ∧
      mxI false (euc (Nat.gcd c.natAbs a.natAbs : Nat) b) (IntKind.i64.wrap (0 - euc (Nat.gcd c.natAbs a.natAbs : Nat) b)) = (gcd3 a b c : Nat) := by
    intro ha hb hc
    simp only [inR, inRg, Bool.and_eq_true, decide_eq_true_eq] at ha hb hc
    have h0 : Nat.gcd c.natAbs a.natAbs ≤ c.natAbs := Nat.gcd_le_left _ (by omega)
    have hp : 0 < Nat.gcd c.natAbs a.natAbs := Nat.gcd_pos_of_pos_left _ (by omega)
    refine ⟨gcd_small (by omega), ?_⟩
    have h2 : Nat.gcd ((Nat.gcd c.natAbs a.natAbs : Nat) : Int).natAbs b.natAbs ≤ Nat.gcd c.natAbs a.natAbs := Nat.gcd_le_left _ hp
    rw [gcd_small (by omega), Int.natAbs_natCast, gcd3_alt]
  simp only [F_sFracValid, G_sFracValid, tr_sFracValid, Fs_sFracValid, G_l2In, G_l6In, F_l2Gcd, validI, ofTree, okT, okE, evalT, evalE, evsIn, ev, callF, preF, hasF, needs, i0, b0, toI_int, toB_bool, List.getD_cons_zero, List.getD_cons_succ, List.cons_append, List.nil_append, List.replicate, if_true, if_false, Bool.false_eq_true, and_true, true_and, implies_true, forall_const, false_implies, cmpI, Bool.not_true, Bool.not_false, Bool.true_and, Bool.false_and, Bool.and_true, Bool.and_false, reduceIte, List.append_nil, reduceCtorEq]
  cases ha : inR a
  · simp [ha]
  · cases hb : inR b
    · simp [ha, hb]
    · cases hc : inRg c 1 2000000000
      · simp [ha, hb, hc]
      · obtain ⟨k1, k2⟩ := key ha hb hc
        simp only [ha, hb, hc, k1, k2, ofTree, okT, okE, evalT, evalE, evsIn, ev, callF, preF, hasF, needs, i0, b0, toI_int, toB_bool, List.getD_cons_zero, List.getD_cons_succ, List.cons_append, List.nil_append, List.replicate, if_true, if_false, Bool.false_eq_true, and_true, true_and, implies_true, forall_const, false_implies, cmpI, Bool.not_true, Bool.not_false, Bool.true_and, Bool.false_and, Bool.and_true, Bool.and_false, reduceIte, List.append_nil, reduceCtorEq]
        simp
        by_cases h1 : gcd3 a b c = 1
        · simp [h1]
        · rw [beq_eq_false_iff_ne.2 h1, beq_eq_false_iff_ne]
          omega

def tr_iFracValid : Tr :=
  (.evs [.call 0 [(.var 0), (.int .i64 (-2000000000)), (.int .i64 2000000000)] none 1,
    .call 0 [(.var 1), (.int .i64 (-2000000000)), (.int .i64 2000000000)] (some (.var 3)) 1,
    .call 0 [(.var 2), (.int .i64 1), (.int .i64 2000000000)] (some (.ite (.var 3) (.var 4) (.bool false))) 1,
    .call 2 [(.var 0)] (some (.ite (.ite (.var 3) (.var 4) (.bool false)) (.var 5) (.bool false))) 1,
    .call 2 [(.var 1)] (some (.ite (.ite (.var 3) (.var 4) (.bool false)) (.var 5) (.bool false))) 1,
    .call 1 [(.var 6), (.var 7)] (some (.ite (.ite (.var 3) (.var 4) (.bool false)) (.var 5) (.bool false))) 1,
    .call 1 [(.var 8), (.var 2)] (some (.ite (.ite (.var 3) (.var 4) (.bool false)) (.var 5) (.bool false))) 1]
  (.ret [(.ite (.ite (.ite (.var 3) (.var 4) (.bool false)) (.var 5) (.bool false)) (.cmp .eql (.var 9) (.int .i64 1)) (.bool false))]))
def Fs_iFracValid : List Fun1 := [G_within, F_divisor, F_size]
def F_iFracValid : Fun1 := ofTree Fs_iFracValid tr_iFracValid
def G_iFracValid : Fun1 := ⟨fun _ => True, fun ins => [.bool (validI (i0 ins 0) (i0 ins 1) (i0 ins 2))]⟩
theorem as_iFracValid (ins : List Value) (ht : TypedL [.int .i64, .int .i64, .int .i64] ins) (_ : G_iFracValid.pre ins) : F_iFracValid.pre ins ∧ F_iFracValid.out ins = G_iFracValid.out ins := by
  obtain ⟨a, b, c, rfl, wa, wb, wc⟩ := ints3 ht
  have key : inR a = true → inR b = true → inRg c 1 2000000000 = true → mxI false a (IntKind.i64.wrap (0 - a)) = a.natAbs ∧ mxI false b (IntKind.i64.wrap (0 - b)) = b.natAbs ∧
      euc (a.natAbs : Nat) (b.natAbs : Nat) = (Nat.gcd a.natAbs b.natAbs : Nat) ∧ euc (Nat.gcd a.natAbs b.natAbs : Nat) c = (gcd3 a b c : Nat) := by
    intro ha hb hc
    simp only [inR, inRg, Bool.and_eq_true, decide_eq_true_eq] at ha hb hc
    exact ⟨size_abs (by omega), size_abs (by omega), euc_nat _ _, by rw [euc_eq (by omega) (by omega)]; rfl⟩
  have r1 : ∀ z, inRg z (-2000000000) 2000000000 = inR z := fun _ => rfl
  cases ha : inR a
  · simp only [F_iFracValid, G_iFracValid, tr_iFracValid, Fs_iFracValid, G_within, F_divisor, F_size, tr_size, Fs_size, validI, arI, r1, ha, ofTree, okT, okE, evalT, evalE, evsIn, ev, callF, preF, hasF, needs, i0, b0, toI_int, toB_bool, List.getD_cons_zero, List.getD_cons_succ, List.cons_append, List.nil_append, List.replicate, if_true, if_false, Bool.false_eq_true, and_true, true_and, implies_true, forall_const, false_implies, cmpI, Bool.not_true, Bool.not_false, Bool.true_and, Bool.false_and, Bool.and_true, Bool.and_false, reduceIte, List.append_nil, reduceCtorEq]
  · cases hb : inR b
    · simp only [F_iFracValid, G_iFracValid, tr_iFracValid, Fs_iFracValid, G_within, F_divisor, F_size, tr_size, Fs_size, validI, arI, r1, ha, hb, ofTree, okT, okE, evalT, evalE, evsIn, ev, callF, preF, hasF, needs, i0, b0, toI_int, toB_bool, List.getD_cons_zero, List.getD_cons_succ, List.cons_append, List.nil_append, List.replicate, if_true, if_false, Bool.false_eq_true, and_true, true_and, implies_true, forall_const, false_implies, cmpI, Bool.not_true, Bool.not_false, Bool.true_and, Bool.false_and, Bool.and_true, Bool.and_false, reduceIte, List.append_nil, reduceCtorEq]
    · cases hc : inRg c 1 2000000000
      · simp only [F_iFracValid, G_iFracValid, tr_iFracValid, Fs_iFracValid, G_within, F_divisor, F_size, tr_size, Fs_size, validI, arI, r1, ha, hb, hc, ofTree, okT, okE, evalT, evalE, evsIn, ev, callF, preF, hasF, needs, i0, b0, toI_int, toB_bool, List.getD_cons_zero, List.getD_cons_succ, List.cons_append, List.nil_append, List.replicate, if_true, if_false, Bool.false_eq_true, and_true, true_and, implies_true, forall_const, false_implies, cmpI, Bool.not_true, Bool.not_false, Bool.true_and, Bool.false_and, Bool.and_true, Bool.and_false, reduceIte, List.append_nil, reduceCtorEq]
      · obtain ⟨k1, k2, k3, k4⟩ := key ha hb hc
        simp only [F_iFracValid, G_iFracValid, tr_iFracValid, Fs_iFracValid, G_within, F_divisor, F_size, tr_size, Fs_size, validI, arI, r1, ha, hb, hc, k1, k2, k3, k4, ofTree, okT, okE, evalT, evalE, evsIn, ev, callF, preF, hasF, needs, i0, b0, toI_int, toB_bool, List.getD_cons_zero, List.getD_cons_succ, List.cons_append, List.nil_append, List.replicate, if_true, if_false, Bool.false_eq_true, and_true, true_and, implies_true, forall_const, false_implies, cmpI, Bool.not_true, Bool.not_false, Bool.true_and, Bool.false_and, Bool.and_true, Bool.and_false, reduceIte, List.append_nil, reduceCtorEq]
        by_cases h1 : gcd3 a b c = 1
        · simp [h1]
        · have h2 : ((gcd3 a b c : Nat) : Int) ≠ 1 := by omega
          rw [beq_eq_false_iff_ne.2 h2, beq_eq_false_iff_ne.2 h1]

def tr_toFrac : Tr :=
  (.ret [(.var 0), (.var 1), (.var 2)])
def Fs_toFrac : List Fun1 := []
def F_toFrac : Fun1 := ofTree Fs_toFrac tr_toFrac

def tr_eqFrac : Tr :=
  (.ite (.cmp .neq (.var 0) (.var 3))
  (.ret [(.bool false)])
  (.ite (.cmp .neq (.var 1) (.var 4))
   (.ret [(.bool false)])
   (.ite (.cmp .neq (.var 2) (.var 5))
    (.ret [(.bool false)])
    (.ret [(.bool true)]))))
def Fs_eqFrac : List Fun1 := []
def F_eqFrac : Fun1 := ofTree Fs_eqFrac tr_eqFrac
def eqQ (a b : Q) : Bool := a.1 == b.1 && (a.2.1 == b.2.1 && a.2.2 == b.2.2)
def G_eqFrac : Fun1 := ⟨fun _ => True, fun ins => [.bool (eqQ (q3 ins 0) (q3 ins 3))]⟩
theorem as_eqFrac (ins : List Value) (ht : TypedL [.int .i64, .int .i64, .int .i64, .int .i64, .int .i64, .int .i64] ins) (_ : G_eqFrac.pre ins) : F_eqFrac.pre ins ∧ F_eqFrac.out ins = G_eqFrac.out ins := by
  obtain ⟨a, b, c, x, y, z, rfl, _⟩ := ints6 ht
  refine ⟨okT_free (fun F hF => by cases hF) _ _ (by kernel_rfl), ?_⟩
  simp only [F_eqFrac, G_eqFrac, tr_eqFrac, Fs_eqFrac, eqQ, q3, ofTree, okT, okE, evalT, evalE, evsIn, ev, callF, preF, hasF, needs, i0, b0, toI_int, toB_bool, List.getD_cons_zero, List.getD_cons_succ, List.cons_append, List.nil_append, List.replicate, if_true, if_false, Bool.false_eq_true, and_true, true_and, implies_true, forall_const, false_implies, cmpI, Bool.not_true, Bool.not_false, Bool.true_and, Bool.false_and, Bool.and_true, Bool.and_false, reduceIte, List.append_nil, reduceCtorEq]
  cases h1 : (a == x) <;> cases h2 : (b == y) <;> cases h3 : (c == z) <;> simp [bne, h1, h2, h3]
theorem eqQ_self (a : Q) : eqQ a a = true := by simp [eqQ]

def tr_szL : Tr :=
  (.ite (.cmp .lss (.ar .sub .i64 (.var 1) (.len (.var 0))) (.int .i64 0))
  (.ret [(.int .i64 (-1))])
  (.ret [(.ar .sub .i64 (.var 1) (.len (.var 0)))]))
def Fs_szL : List Fun1 := []
def F_szL : Fun1 := ofTree Fs_szL tr_szL
theorem szL_le {a : Option Addr} {n cap : Nat} (h : n ≤ 1048576) : F_szL.out [.slice a n cap, .int .i64 1048576] = [.int .i64 (1048576 - (n : Int))] := by
  have e : IntKind.i64.wrap (1048576 - (n : Int)) = 1048576 - n := wrap_in (by omega)
  have h2 : ¬ (1048576 - (n : Int) < 0) := by omega
  show (if toB (.bool (decide (IntKind.i64.wrap (1048576 - (n : Int)) < 0))) = true then [Value.int .i64 (-1)] else [.int .i64 (IntKind.i64.wrap (1048576 - (n : Int)))]) = _
  rw [e]
  simp [h2]
theorem szL_gt {a : Option Addr} {n cap : Nat} (h : ¬ n ≤ 1048576) (hn : n ≤ 9223372036854775807) : F_szL.out [.slice a n cap, .int .i64 1048576] = [.int .i64 (-1)] := by
  have e : IntKind.i64.wrap (1048576 - (n : Int)) = 1048576 - n := wrap_in (by omega)
  have h2 : (1048576 - (n : Int) < 0) := by omega
  show (if toB (.bool (decide (IntKind.i64.wrap (1048576 - (n : Int)) < 0))) = true then [Value.int .i64 (-1)] else [.int .i64 (IntKind.i64.wrap (1048576 - (n : Int)))]) = _
  rw [e]
  simp [h2]
theorem pre_szL (ins : List Value) : F_szL.pre ins := okT_free (fun F hF => by cases hF) _ _ (by kernel_rfl)
theorem szL_gen {a : Option Addr} {n cap : Nat} {L : Int} (h0 : 0 ≤ L) (h1 : L ≤ 1048576) (hn : n ≤ 9223372036854775807) : F_szL.out [.slice a n cap, .int .i64 L] = [.int .i64 (if (n : Int) ≤ L then L - n else -1)] := by
  have e : IntKind.i64.wrap (L - (n : Int)) = L - n := wrap_in (by omega)
  show (if toB (.bool (decide (IntKind.i64.wrap (L - (n : Int)) < 0))) = true then [Value.int .i64 (-1)] else [.int .i64 (IntKind.i64.wrap (L - (n : Int)))]) = _
  rw [e]
  by_cases h : (n : Int) ≤ L
  · have h2 : ¬ (L - (n : Int) < 0) := by omega
    simp [h, h2]
  · have h2 : (L - (n : Int) < 0) := by omega
    simp [h, h2]

def tr_toLayer : Tr :=
  (.evs [.call 0 [(.var 0), (.var 1), (.var 2)] none 3]
  (.ret [(.var 4), (.var 5), (.var 6), (.var 3)]))
def Fs_toLayer : List Fun1 := [F_toFrac]
def F_toLayer : Fun1 := ofTree Fs_toLayer tr_toLayer

def SP_toL : Spec := copySpec

def tr_eqLayer : Tr :=
  (.evs [.call 0 [(.var 0), (.var 1), (.var 2), (.var 4), (.var 5), (.var 6)] none 1]
  (.ite (.not (.var 8))
  (.ret [(.bool false)])
  (.ite (.cmp .neq (.var 3) (.var 7))
   (.ret [(.bool false)])
   (.ret [(.bool true)]))))
def Fs_eqLayer : List Fun1 := [G_eqFrac]
def F_eqLayer : Fun1 := ofTree Fs_eqLayer tr_eqLayer
def G_eqLayer : Fun1 := ⟨fun _ => True, fun ins => [.bool (eq4 (i0 ins 0) (i0 ins 1) (i0 ins 2) (i0 ins 3) (i0 ins 4) (i0 ins 5) (i0 ins 6) (i0 ins 7))]⟩
theorem as_eqLayer (ins : List Value) (ht : TypedL (intTs 8 ++ []) ins) (_ : G_eqLayer.pre ins) : F_eqLayer.pre ins ∧ F_eqLayer.out ins = G_eqLayer.out ins := by
  obtain ⟨g, r, rfl, h1, _⟩ := ints_lit 8 0 ht
  obtain rfl := ints0 h1
  rw [List.append_nil]
  refine ⟨okT_free (by intro F hF ins; simp only [Fs_eqLayer, List.mem_singleton] at hF; rw [hF]; trivial) _ _ (by kernel_rfl), ?_⟩
  simp only [ivs, F_eqLayer, G_eqLayer, tr_eqLayer, Fs_eqLayer, G_eqFrac, eqQ, q3, eq4, ofTree, okT, okE, evalT, evalE, evsIn, ev, callF, preF, hasF, needs, i0, b0, toI_int, toB_bool, List.getD_cons_zero, List.getD_cons_succ, List.cons_append, List.nil_append, List.replicate, if_true, if_false, Bool.false_eq_true, and_true, true_and, implies_true, forall_const, false_implies, cmpI, Bool.not_true, Bool.not_false, Bool.true_and, Bool.false_and, Bool.and_true, Bool.and_false, reduceIte, List.append_nil, reduceCtorEq]
  by_cases h0 : g 0 = g 4 <;> by_cases h1 : g 1 = g 5 <;> by_cases h2 : g 2 = g 6 <;> by_cases h3 : g 3 = g 7 <;> simp [h0, h1, h2, h3]

def tr_eqLayerS : Tr :=
  (.ite (.cmp .neq (.len (.var 0)) (.len (.var 1)))
  (.ret [(.bool false)])
  (.lp 0 [(.int .i64 0)] [.int .i64]
   (.ite (.cmp .lss (.var 4) (.len (.var 0)))
    (.evs [.need [(.inb (.var 2) (.var 4) 4), (.inb (.var 3) (.var 4) 4)],
       .need [(.inb (.var 2) (.var 4) 4), (.inb (.var 3) (.var 4) 4)],
       .call 0 [(.sel (.var 2) (.var 4) 4 0), (.sel (.var 2) (.var 4) 4 1), (.sel (.var 2) (.var 4) 4 2), (.sel (.var 2) (.var 4) 4 3), (.sel (.var 3) (.var 4) 4 0), (.sel (.var 3) (.var 4) 4 1), (.sel (.var 3) (.var 4) 4 2), (.sel (.var 3) (.var 4) 4 3)] none 1]
     (.ite (.not (.var 5))
     (.ret [(.bool false)])
     (.next 0 [(.ar .add .i64 (.var 4) (.int .i64 1))])))
    (.ret [(.bool true)]))))
def Fs_eqLayerS : List Fun1 := [G_eqLayer]
def F_eqLayerS : Fun1 := ⟨fun ins => Fit4 (ins.getD 0 undef) (ins.getD 2 undef) ∧ Fit4 (ins.getD 1 undef) (ins.getD 3 undef), fun ins => [.bool (rlen (ins.getD 0 undef) == rlen (ins.getD 1 undef) && allB (sameP (ins.getD 2 undef) (ins.getD 3 undef)) 0 (rlen (ins.getD 0 undef)))]⟩
theorem sat_eqLayerS (P : Program) (ins : List Value) (K : List Value → Prop) (ht : TypedL [.sl, .sl, .row .i64 4, .row .i64 4] ins) (hp : F_eqLayerS.pre ins) (hK : K (F_eqLayerS.out ins)) : sat P (specsOf Fs_eqLayerS) tr_eqLayerS ins [] K := by
  obtain ⟨x, y, c, d, rfl, hx, hy, hcT, hdT⟩ := four_of ht
  obtain ⟨h1, h2⟩ := hp
  obtain ⟨a, n, cap, rfl, hc, hn⟩ : Fit4 x c := h1
  obtain ⟨b, m, cap2, rfl, hd, hm⟩ : Fit4 y d := h2
  have hout : F_eqLayerS.out [.slice a n cap, .slice b m cap2, c, d] = [.bool (n == m && allB (sameP c d) 0 n)] := rfl
  rw [hout] at hK
  refine ⟨fun h => ?_, fun h => ?_⟩
  · have hne : (n == m) = false := by
      have h : (((n : Int)) != (m : Int)) = true := Value.bool.inj h
      simp only [bne_iff_ne, ne_eq, Int.natCast_inj] at h
      simpa using h
    rw [hne] at hK
    exact hK
  · have he : n = m := by
      have h : (((n : Int)) != (m : Int)) = false := Value.bool.inj h
      have h : (n : Int) = m := by simpa using h
      omega
    subst he
    refine ⟨fun vs => ∃ k : Nat, vs = [.int .i64 k] ∧ k ≤ n ∧ allB (sameP c d) 0 k = true, fun vs => n - (toI (vs.getD 0 undef)).toNat, ⟨0, rfl, Nat.zero_le _, rfl⟩, ?_⟩
    rintro vs hty ⟨k, rfl, hk, hall⟩
    refine ⟨fun h => ?_, fun h => ?_⟩
    · have hlt : k < n := by
        have : decide ((k : Int) < (n : Int)) = true := Value.bool.inj h
        simpa using this
      have hin := inb_ok hc hlt
      have hin2 := inb_ok hd hlt
      have hall2 : ∀ e ∈ ([.inb (.var 2) (.var 4) 4, .inb (.var 3) (.var 4) 4] : List Ex), ev ([.slice a n cap, .slice b n cap2, c, d] ++ [.int .i64 k]) e = .bool true := by
        intro e he
        simp only [List.mem_cons, List.not_mem_nil, or_false] at he
        rcases he with rfl | rfl
        · exact hin
        · exact hin2
      refine ⟨hall2, hall2, trivial, ?_⟩
      show sat P _ _ ([Value.slice a n cap, .slice b n cap2, c, d, .int .i64 k] ++ [.bool (sameP c d k)]) _ K
      cases hs : sameP c d k with
      | false =>
        refine ⟨fun _ => ?_, fun h2 => by cases h2⟩
        rw [allB_not hlt hs, Bool.and_false] at hK
        exact hK
      | true =>
        refine ⟨fun h2 => (by cases h2), fun _ => ?_⟩
        refine ⟨⟨k + 1, congrArg (fun z => [Value.int .i64 z]) (wrap_next hlt hn), by omega, ?_⟩, ?_⟩
        · rw [allB_snoc, hall, Nat.zero_add]; exact hs
        · show n - (toI (.int .i64 (IntKind.i64.wrap ((k : Int) + 1)))).toNat < n - (toI (.int .i64 (k : Int))).toNat
          rw [wrap_next hlt hn]
          simp only [toI_int, Int.toNat_natCast]
          omega
    · have hge : ¬ k < n := by
        have : decide ((k : Int) < (n : Int)) = false := Value.bool.inj h
        simpa using this
      have hkn : k = n := by omega
      subst hkn
      rw [hall, beq_self_eq_true, Bool.and_self] at hK
      exact hK

def tr_indexOk : Tr :=
  (.evs [.call 0 [(.var 0), (.var 1), (.var 2)] none 1]
  (.ret [(.ite (.var 3) (.not (.ite (.cmp .eql (.var 0) (.int .i64 0)) (.ite (.cmp .eql (.var 1) (.int .i64 0)) (.cmp .eql (.var 2) (.int .i64 1)) (.bool false)) (.bool false))) (.bool false))]))
def Fs_indexOk : List Fun1 := [G_iFracValid]
def F_indexOk : Fun1 := ofTree Fs_indexOk tr_indexOk
def G_indexOk : Fun1 := ⟨fun _ => True, fun ins => [.bool (idxQ (q3 ins 0))]⟩
theorem as_indexOk (ins : List Value) (ht : TypedL [.int .i64, .int .i64, .int .i64] ins) (_ : G_indexOk.pre ins) : F_indexOk.pre ins ∧ F_indexOk.out ins = G_indexOk.out ins := by
  obtain ⟨a, b, c, rfl, _⟩ := ints3 ht
  simp only [F_indexOk, G_indexOk, tr_indexOk, Fs_indexOk, G_iFracValid, idxQ, validQ, q3, ofTree, okT, okE, evalT, evalE, evsIn, ev, callF, preF, hasF, needs, i0, b0, toI_int, toB_bool, List.getD_cons_zero, List.getD_cons_succ, List.cons_append, List.nil_append, List.replicate, if_true, if_false, Bool.false_eq_true, and_true, true_and, implies_true, forall_const, false_implies, cmpI, Bool.not_true, Bool.not_false, Bool.true_and, Bool.false_and, Bool.and_true, Bool.and_false, reduceIte, List.append_nil, reduceCtorEq]
  cases h : validI a b c
  · simp
  · by_cases ha : a = 0
    · by_cases hb : b = 0
      · subst ha; subst hb
        simp [nil_den h]
      · simp [ha, hb]
    · simp [ha]

def tr_iFilmValid : Tr :=
  (.lp 0 [(.int .i64 0)] [.int .i64]
  (.ite (.cmp .lss (.var 2) (.len (.var 0)))
   (.evs [.need [(.inb (.var 1) (.var 2) 4)]]
    (.evs [.call 0 [(.sel (.var 1) (.var 2) 4 0), (.sel (.var 1) (.var 2) 4 1), (.sel (.var 1) (.var 2) 4 2)] none 1,
      .call 1 [(.sel (.var 1) (.var 2) 4 3), (.int .i64 0), (.int .i64 3)] (some (.not (.not (.var 3)))) 1]
    (.ite (.ite (.not (.var 3)) (.bool true) (.not (.var 4)))
    (.ret [(.bool false)])
    (.next 0 [(.ar .add .i64 (.var 2) (.int .i64 1))]))))
   (.ret [(.cmp .leq (.len (.var 0)) (.int .i64 8))])))
def Fs_iFilmValid : List Fun1 := [G_indexOk, G_within]
def layP (c : Value) (k : Nat) : Bool := idxQ (rq c k 0, rq c k 1, rq c k 2) && inRg (rq c k 3) 0 3
def F_iFilmValid : Fun1 := ⟨fun ins => Fit4 (ins.getD 0 undef) (ins.getD 1 undef), fun ins => [.bool (allB (layP (ins.getD 1 undef)) 0 (rlen (ins.getD 0 undef)) && decide (lenV (ins.getD 0 undef) ≤ 8))]⟩
theorem sat_iFilmValid (P : Program) (ins : List Value) (K : List Value → Prop) (ht : TypedL [.sl, .row .i64 4] ins) (hp : F_iFilmValid.pre ins) (hK : K (F_iFilmValid.out ins)) : sat P (specsOf Fs_iFilmValid) tr_iFilmValid ins [] K := by
  obtain ⟨x, c, rfl, hx, hcT⟩ := two_of ht
  obtain ⟨a, n, cap, rfl, hc, hn⟩ : Fit4 x c := hp
  refine ⟨fun vs => ∃ k : Nat, vs = [.int .i64 k] ∧ k ≤ n ∧ allB (layP c) 0 k = true, fun vs => n - (toI (vs.getD 0 undef)).toNat, ⟨0, rfl, Nat.zero_le _, rfl⟩, ?_⟩
  rintro vs hty ⟨k, rfl, hk, hall⟩
  refine ⟨fun h => ?_, fun h => ?_⟩
  · have hlt : k < n := by
      have : decide ((k : Int) < (n : Int)) = true := Value.bool.inj h
      simpa using this
    have hin := inb_ok hc hlt
    refine ⟨fun e he => by rw [List.mem_singleton.1 he]; exact hin, trivial, ?_⟩
    show evSat P _ _ ([Value.slice a n cap, c, .int .i64 k] ++ [.bool (idxQ (rq c k 0, rq c k 1, rq c k 2))]) _
    have bad : layP c k = false → K [.bool false] := fun hs => by
      have e : F_iFilmValid.out [.slice a n cap, c] = [.bool false] := by
        show [Value.bool (allB (layP c) 0 n && _)] = _
        rw [allB_not hlt hs, Bool.false_and]
      rw [e] at hK
      exact hK
    have hlay : layP c k = (idxQ (rq c k 0, rq c k 1, rq c k 2) && inRg (rq c k 3) 0 3) := rfl
    cases hi : idxQ (rq c k 0, rq c k 1, rq c k 2) with
    | false => exact ⟨fun h2 => (by cases h2), fun _ => ⟨fun _ => bad (by rw [hlay, hi]; rfl), fun h2 => (by cases h2)⟩⟩
    | true =>
      refine ⟨fun _ => ⟨trivial, ?_⟩, fun h2 => (by cases h2)⟩
      show sat P _ _ ([Value.slice a n cap, c, .int .i64 k, .bool true] ++ [.bool (inRg (rq c k 3) 0 3)]) _ K
      cases h3 : inRg (rq c k 3) 0 3 with
      | false => exact ⟨fun _ => bad (by rw [hlay, hi, h3]; rfl), fun h2 => (by cases h2)⟩
      | true =>
        have hs : layP c k = true := by rw [hlay, hi, h3]; rfl
        refine ⟨fun h2 => (by cases h2), fun _ => ?_⟩
        · refine ⟨⟨k + 1, congrArg (fun z => [Value.int .i64 z]) (wrap_next hlt hn), by omega, ?_⟩, ?_⟩
          · rw [allB_snoc, hall, Nat.zero_add]; exact hs
          · show n - (toI (.int .i64 (IntKind.i64.wrap ((k : Int) + 1)))).toNat < n - (toI (.int .i64 (k : Int))).toNat
            rw [wrap_next hlt hn]
            simp only [toI_int, Int.toNat_natCast]
            omega
  · have hge : ¬ k < n := by
      have : decide ((k : Int) < (n : Int)) = false := Value.bool.inj h
      simpa using this
    have hkn : k = n := by omega
    subst hkn
    have e : F_iFilmValid.out [.slice a k cap, c] = [.bool (decide ((k : Int) ≤ 8))] := by
      show [Value.bool (allB (layP c) 0 k && decide ((k : Int) ≤ 8))] = _
      rw [hall, Bool.true_and]
    rw [e] at hK
    exact hK

def tr_sFilmValid : Tr :=
  (.lp 0 [(.int .i64 0)] [.int .i64]
  (.ite (.cmp .lss (.var 2) (.len (.var 0)))
   (.evs [.need [(.inb (.var 1) (.var 2) 4)]]
    (.evs [.call 0 [(.sel (.var 1) (.var 2) 4 0), (.sel (.var 1) (.var 2) 4 1), (.sel (.var 1) (.var 2) 4 2)] none 1,
      .need [(.ite (.not (.ite (.not (.var 3)) (.bool true) (.ite (.cmp .eql (.sel (.var 1) (.var 2) 4 0) (.int .i64 0)) (.cmp .eql (.sel (.var 1) (.var 2) 4 1) (.int .i64 0)) (.bool false)))) (.inb (.var 1) (.var 2) 4) (.bool true))],
      .call 1 [(.sel (.var 1) (.var 2) 4 3), (.int .i64 0), (.int .i64 3)] (some (.not (.ite (.not (.var 3)) (.bool true) (.ite (.cmp .eql (.sel (.var 1) (.var 2) 4 0) (.int .i64 0)) (.cmp .eql (.sel (.var 1) (.var 2) 4 1) (.int .i64 0)) (.bool false))))) 1]
    (.ite (.ite (.ite (.not (.var 3)) (.bool true) (.ite (.cmp .eql (.sel (.var 1) (.var 2) 4 0) (.int .i64 0)) (.cmp .eql (.sel (.var 1) (.var 2) 4 1) (.int .i64 0)) (.bool false))) (.bool true) (.not (.var 4)))
    (.ret [(.bool false)])
    (.next 0 [(.ar .add .i64 (.var 2) (.int .i64 1))]))))
   (.ret [(.cmp .leq (.len (.var 0)) (.int .i64 8))])))
def Fs_sFilmValid : List Fun1 := [G_sFracValid, G_l6In]
def F_sFilmValid : Fun1 := F_iFilmValid
theorem sat_sFilmValid (P : Program) (ins : List Value) (K : List Value → Prop) (ht : TypedL [.sl, .row .i64 4] ins) (hp : F_sFilmValid.pre ins) (hK : K (F_sFilmValid.out ins)) : sat P (specsOf Fs_sFilmValid) tr_sFilmValid ins [] K := by
  obtain ⟨x, c, rfl, hx, hcT⟩ := two_of ht
  obtain ⟨a, n, cap, rfl, hc, hn⟩ : Fit4 x c := hp
  refine ⟨fun vs => ∃ k : Nat, vs = [.int .i64 k] ∧ k ≤ n ∧ allB (layP c) 0 k = true, fun vs => n - (toI (vs.getD 0 undef)).toNat, ⟨0, rfl, Nat.zero_le _, rfl⟩, ?_⟩
  rintro vs hty ⟨k, rfl, hk, hall⟩
  refine ⟨fun h => ?_, fun h => ?_⟩
  · have hlt : k < n := by
      have : decide ((k : Int) < (n : Int)) = true := Value.bool.inj h
      simpa using this
    have hin := inb_ok hc hlt
    refine ⟨fun e he => by rw [List.mem_singleton.1 he]; exact hin, trivial, ?_⟩
    show evSat P _ _ ([Value.slice a n cap, c, .int .i64 k] ++ [.bool (validQ (rq c k 0, rq c k 1, rq c k 2))]) _
    have bad : layP c k = false → K [.bool false] := fun hs => by
      have e : F_sFilmValid.out [.slice a n cap, c] = [.bool false] := by
        show [Value.bool (allB (layP c) 0 n && _)] = _
        rw [allB_not hlt hs, Bool.false_and]
      rw [e] at hK
      exact hK
    have hlay : layP c k = (idxQ (rq c k 0, rq c k 1, rq c k 2) && inRg (rq c k 3) 0 3) := rfl
    have hidx : idxQ (rq c k 0, rq c k 1, rq c k 2) = (validQ (rq c k 0, rq c k 1, rq c k 2) && !(rq c k 0 == 0 && rq c k 1 == 0)) := rfl
    cases hv : validQ (rq c k 0, rq c k 1, rq c k 2) with
    | false =>
      refine ⟨fun e he => by rw [List.mem_singleton.1 he]; rfl, ⟨fun h2 => (by cases h2), fun _ => ?_⟩⟩
      exact ⟨fun _ => bad (by rw [hlay, hidx, hv]; rfl), fun h2 => (by cases h2)⟩
    | true =>
      refine ⟨fun e he => ?_, ⟨fun h2 => ⟨trivial, ?_⟩, fun h2 => ?_⟩⟩
      · rw [List.mem_singleton.1 he]
        show (if (!andB (rq c k 0 == 0) (rq c k 1 == 0)) = true then _ else Value.bool true) = _
        split
        · exact hin
        · rfl
      · have h2 : (!andB (rq c k 0 == 0) (rq c k 1 == 0)) = true := h2
        rw [andB_eq] at h2
        have hz : (rq c k 0 == 0 && rq c k 1 == 0) = false := by
          cases hq : (rq c k 0 == 0 && rq c k 1 == 0) with
          | false => rfl
          | true => rw [hq] at h2; cases h2
        have hi : idxQ (rq c k 0, rq c k 1, rq c k 2) = true := by rw [hidx, hv, hz]; rfl
        show sat P _ _ ([Value.slice a n cap, c, .int .i64 k, .bool true] ++ [.bool (inRg (rq c k 3) 0 3)]) _ K
        have hc2 : ∀ x : Bool, toB (ev ([Value.slice a n cap, c, .int .i64 k, .bool true] ++ [.bool x]) (.ite (.ite (.not (.var 3)) (.bool true) (.ite (.cmp .eql (.sel (.var 1) (.var 2) 4 0) (.int .i64 0)) (.cmp .eql (.sel (.var 1) (.var 2) 4 1) (.int .i64 0)) (.bool false))) (.bool true) (.not (.var 4)))) = !x := fun x => by
          show toB (if andB (rq c k 0 == 0) (rq c k 1 == 0) = true then Value.bool true else .bool (!x)) = !x
          rw [andB_eq, hz]
          rfl
        cases h3 : inRg (rq c k 3) 0 3 with
        | false =>
          refine ⟨fun _ => bad (by rw [hlay, hi, h3]; rfl), fun h4 => ?_⟩
          have := hc2 false
          rw [h4] at this
          cases this
        | true =>
          have hs : layP c k = true := by rw [hlay, hi, h3]; rfl
          refine ⟨fun h4 => ?_, fun _ => ?_⟩
          · have := hc2 true
            rw [h4] at this
            cases this
          · refine ⟨⟨k + 1, congrArg (fun z => [Value.int .i64 z]) (wrap_next hlt hn), by omega, ?_⟩, ?_⟩
            · rw [allB_snoc, hall, Nat.zero_add]; exact hs
            · show n - (toI (.int .i64 (IntKind.i64.wrap ((k : Int) + 1)))).toNat < n - (toI (.int .i64 (k : Int))).toNat
              rw [wrap_next hlt hn]
              simp only [toI_int, Int.toNat_natCast]
              omega
      · have h2 : (!andB (rq c k 0 == 0) (rq c k 1 == 0)) = false := h2
        rw [andB_eq] at h2
        have hz : (rq c k 0 == 0 && rq c k 1 == 0) = true := by
          cases hq : (rq c k 0 == 0 && rq c k 1 == 0) with
          | true => rfl
          | false => rw [hq] at h2; cases h2
        refine ⟨fun _ => bad (by rw [hlay, hidx, hv, hz]; rfl), fun h4 => ?_⟩
        exfalso
        have h4 : toB (if andB (rq c k 0 == 0) (rq c k 1 == 0) = true then Value.bool true else .bool (!toB undef)) = false := congrArg toB h4
        rw [andB_eq, hz] at h4
        cases h4
  · have hge : ¬ k < n := by
      have : decide ((k : Int) < (n : Int)) = false := Value.bool.inj h
      simpa using this
    have hkn : k = n := by omega
    subst hkn
    have e : F_sFilmValid.out [.slice a k cap, c] = [.bool (decide ((k : Int) ≤ 8))] := by
      show [Value.bool (allB (layP c) 0 k && decide ((k : Int) ≤ 8))] = _
      rw [hall, Bool.true_and]
    rw [e] at hK
    exact hK

def tr_revL : Tr :=
  (.evs [.app (.val (.agg #[])) 4 (.cells [])]
  (.lp 0 [(.var 2), (.ar .sub .i64 (.len (.var 0)) (.int .i64 1)), (.val (.agg #[]))] [.sl, .int .i64, .row .i64 4]
  (.ite (.cmp .geq (.var 5) (.int .i64 0))
   (.evs [.need [(.inb (.var 1) (.var 5) 4)],
      .app (.var 6) 4 (.cells [(.sel (.var 1) (.var 5) 4 0), (.sel (.var 1) (.var 5) 4 1), (.sel (.var 1) (.var 5) 4 2), (.sel (.var 1) (.var 5) 4 3)])]
    (.next 0 [(.var 7), (.ar .sub .i64 (.var 5) (.int .i64 1)), (.var 8)]))
   (.ret [(.var 4), (.var 6)]))))
def Fs_revL : List Fun1 := []
def SP_revL : Spec := revSpec
theorem sat_revL (P : Program) (ins : List Value) (K : List Value → Prop) (ht : TypedL [.sl, .row .i64 4] ins) (h : SP_revL ins K) : sat P (specsOf Fs_revL) tr_revL ins [] K := by
  obtain ⟨x, c, rfl, hx, hcT⟩ := two_of ht
  obtain ⟨hf, hn, hK⟩ := h
  obtain ⟨a, n, cap, rfl, hc, hnn⟩ : Fit4 x c := hf
  have hn : n ≤ 1048576 := hn
  refine app_empty (by omega) fun a2 cap2 => ?_
  refine rev_loop (env := [.slice a n cap, c, .slice a2 0 cap2, .agg #[]]) (R := [.var 4, .var 6]) (c := c) (n := n) rfl (by simp) hc hn (a0 := a2) (cap0 := cap2) ?_ (fun b cp => hK b cp)
  have hw : IntKind.i64.wrap ((n : Int) - 1) = (n : Int) - 1 := wrap_in (by omega)
  show [Value.slice a2 0 cap2, .int .i64 (IntKind.i64.wrap ((n : Int) - 1)), .agg #[]] = _
  rw [hw]

def tr_iFracWide : Tr :=
  (.evs [.call 0 [(.var 0), (.var 1), (.var 2)] none 1]
  (.ite (.not (.var 3))
  (.ret [(.val (.complex .f64 0 0)), (.bool false)])
  (.evs [.prim (.fa .quo .f64) [(.itf .f64 (.var 0)), (.itf .f64 (.var 2))],
     .prim (.fa .quo .f64) [(.itf .f64 (.var 1)), (.itf .f64 (.var 2))]]
   (.ret [(.mkc (.var 4) (.var 5)), (.bool true)]))))
def Fs_iFracWide : List Fun1 := [G_iFracValid]
def SP_iFracWide : Spec := fWideSpec
theorem sat_iFracWide (P : Program) (ins : List Value) (K : List Value → Prop) (ht : TypedL [.int .i64, .int .i64, .int .i64] ins) (h : SP_iFracWide ins K) : sat P (specsOf Fs_iFracWide) tr_iFracWide ins [] K := by
  obtain ⟨a, b, c, rfl, _⟩ := ints3 ht
  obtain ⟨h1, h2⟩ := h
  have h1 : validQ (a, b, c) = true → K [cxv (idxF (a, b, c)), .bool true] := h1
  have h2 : validQ (a, b, c) = false → K [cxv (0, 0), .bool false] := h2
  refine evs_step (call_step (sp := G_iFracValid.spec) rfl ⟨trivial, evs_nil ?_⟩)
  show sat P _ _ ([Value.int .i64 a, .int .i64 b, .int .i64 c] ++ [.bool (validQ (a, b, c))]) _ K
  cases hv : validQ (a, b, c) with
  | false => exact sat_ite1 rfl (h2 hv)
  | true =>
    obtain ⟨e1, e2⟩ := fWide_parts hv
    exact sat_ite0 rfl (evs_step (fa_step rfl rfl e1 (fa_step rfl rfl e2 (evs_nil (h1 hv)))))

def tr_sFracWide : Tr :=
  (.evs [.call 0 [(.var 0), (.var 1), (.var 2)] none 1]
  (.ite (.not (.var 3))
  (.ret [(.val (.complex .f64 0 0)), (.bool false)])
  (.evs [.prim (.fa .quo .f64) [(.itf .f64 (.var 0)), (.itf .f64 (.var 2))],
     .prim (.fa .quo .f64) [(.itf .f64 (.var 1)), (.itf .f64 (.var 2))]]
   (.ret [(.mkc (.var 4) (.var 5)), (.bool true)]))))
def Fs_sFracWide : List Fun1 := [G_sFracValid]
def SP_sFracWide : Spec := fWideSpec
theorem sat_sFracWide (P : Program) (ins : List Value) (K : List Value → Prop) (ht : TypedL [.int .i64, .int .i64, .int .i64] ins) (h : SP_sFracWide ins K) : sat P (specsOf Fs_sFracWide) tr_sFracWide ins [] K := by
  obtain ⟨a, b, c, rfl, _⟩ := ints3 ht
  obtain ⟨h1, h2⟩ := h
  have h1 : validQ (a, b, c) = true → K [cxv (idxF (a, b, c)), .bool true] := h1
  have h2 : validQ (a, b, c) = false → K [cxv (0, 0), .bool false] := h2
  refine evs_step (call_step (sp := G_sFracValid.spec) rfl ⟨trivial, evs_nil ?_⟩)
  show sat P _ _ ([Value.int .i64 a, .int .i64 b, .int .i64 c] ++ [.bool (validQ (a, b, c))]) _ K
  cases hv : validQ (a, b, c) with
  | false => exact sat_ite1 rfl (h2 hv)
  | true =>
    obtain ⟨e1, e2⟩ := fWide_parts hv
    exact sat_ite0 rfl (evs_step (fa_step rfl rfl e1 (fa_step rfl rfl e2 (evs_nil (h1 hv)))))

def tr_iWideTimes : Tr :=
  (.evs [.prim (.fa .mul .f64) [(.cre (.var 0)), (.cre (.var 1))],
    .prim (.fa .mul .f64) [(.cim (.var 0)), (.cim (.var 1))],
    .prim (.fa .sub .f64) [(.var 2), (.var 3)],
    .prim (.fa .mul .f64) [(.cre (.var 0)), (.cim (.var 1))],
    .prim (.fa .mul .f64) [(.cim (.var 0)), (.cre (.var 1))],
    .prim (.fa .add .f64) [(.var 5), (.var 6)]]
  (.ret [(.mkc (.var 4) (.var 7))]))
def Fs_iWideTimes : List Fun1 := []
def SP_iWideTimes : Spec := wTimesSpec
theorem sat_iWideTimes (P : Program) (ins : List Value) (K : List Value → Prop) (ht : TypedL [.cpx .f64, .cpx .f64] ins) (h : SP_iWideTimes ins K) : sat P (specsOf Fs_iWideTimes) tr_iWideTimes ins [] K := by
  obtain ⟨x, y, ⟨re, im⟩, rfl, e, hK⟩ := h
  obtain ⟨ac, bd, ad, bc, h1, h2, h3, h4, h5, h6⟩ := cmul_parts e
  exact evs_step (fa_step rfl rfl h1 (fa_step rfl rfl h2 (fa_step rfl rfl h3 (fa_step rfl rfl h4 (fa_step rfl rfl h5 (fa_step rfl rfl h6 (evs_nil hK)))))))

def tr_sWideTimes : Tr :=
  (.evs [.prim (.fa .mul .f64) [(.cre (.var 0)), (.cre (.var 1))],
    .prim (.fa .mul .f64) [(.cim (.var 0)), (.cim (.var 1))],
    .prim (.fa .sub .f64) [(.var 2), (.var 3)],
    .prim (.fa .mul .f64) [(.cre (.var 0)), (.cim (.var 1))],
    .prim (.fa .mul .f64) [(.cim (.var 0)), (.cre (.var 1))],
    .prim (.fa .add .f64) [(.var 5), (.var 6)]]
  (.ret [(.mkc (.var 4) (.var 7))]))
def Fs_sWideTimes : List Fun1 := []
def SP_sWideTimes : Spec := wTimesSpec
theorem sat_sWideTimes (P : Program) (ins : List Value) (K : List Value → Prop) (ht : TypedL [.cpx .f64, .cpx .f64] ins) (h : SP_sWideTimes ins K) : sat P (specsOf Fs_sWideTimes) tr_sWideTimes ins [] K := by
  obtain ⟨x, y, ⟨re, im⟩, rfl, e, hK⟩ := h
  obtain ⟨ac, bd, ad, bc, h1, h2, h3, h4, h5, h6⟩ := cmul_parts e
  exact evs_step (fa_step rfl rfl h1 (fa_step rfl rfl h2 (fa_step rfl rfl h3 (fa_step rfl rfl h4 (fa_step rfl rfl h5 (fa_step rfl rfl h6 (evs_nil hK)))))))

def tr_iWideOver : Tr :=
  (.evs [.prim (.ca .quo .f64) [(.var 0), (.var 1)]]
  (.ret [(.var 2)]))
def Fs_iWideOver : List Fun1 := []
def SP_iWideOver : Spec := wOverSpec
theorem sat_iWideOver (P : Program) (ins : List Value) (K : List Value → Prop) (ht : TypedL [.cpx .f64, .cpx .f64] ins) (h : SP_iWideOver ins K) : sat P (specsOf Fs_iWideOver) tr_iWideOver ins [] K := by
  obtain ⟨x, y, rfl, hK⟩ := h
  exact evs_step (fun v hv => evs_nil (hK v ⟨P, hv⟩))

def tr_sWideOver : Tr :=
  (.evs [.prim (.ca .quo .f64) [(.var 0), (.var 1)]]
  (.ret [(.var 2)]))
def Fs_sWideOver : List Fun1 := []
def SP_sWideOver : Spec := wOverSpec
theorem sat_sWideOver (P : Program) (ins : List Value) (K : List Value → Prop) (ht : TypedL [.cpx .f64, .cpx .f64] ins) (h : SP_sWideOver ins K) : sat P (specsOf Fs_sWideOver) tr_sWideOver ins [] K := by
  obtain ⟨x, y, rfl, hK⟩ := h
  exact evs_step (fun v hv => evs_nil (hK v ⟨P, hv⟩))

def tr_l8Wide : Tr :=
  (.evs [.call 0 [(.var 0), (.var 1), (.var 2)] none 2]
  (.ite (.cmp .eql (.var 3) (.int .i64 1))
  (.ite (.cmp .eql (.var 3) (.int .i64 1))
   (.evs [.call 1 [(.val (.complex .f64 0 4607182418800017408)), (.var 5)] none 1,
      .call 2 [(.var 8), (.var 6)] none 1]
    (.evs [.call 1 [(.val (.complex .f64 0 4607182418800017408)), (.var 6)] none 1,
      .call 1 [(.var 10), (.var 4)] none 1]
    (.ite (.cmp .geq (.var 3) (.int .i64 2))
    (.ret [(.fneg (.var 9)), (.fneg (.var 11))])
    (.ret [(.var 9), (.var 11)]))))
   (.ite (.cmp .geq (.var 3) (.int .i64 2))
    (.ret [(.fneg (.var 4)), (.fneg (.var 5))])
    (.ret [(.var 4), (.var 5)])))
  (.ite (.cmp .eql (.var 3) (.int .i64 3))
   (.evs [.call 1 [(.val (.complex .f64 0 4607182418800017408)), (.var 5)] none 1,
      .call 2 [(.var 8), (.var 6)] none 1]
    (.evs [.call 1 [(.val (.complex .f64 0 4607182418800017408)), (.var 6)] none 1,
      .call 1 [(.var 10), (.var 4)] none 1]
    (.ite (.cmp .geq (.var 3) (.int .i64 2))
    (.ret [(.fneg (.var 9)), (.fneg (.var 11))])
    (.ret [(.var 9), (.var 11)]))))
   (.ite (.cmp .geq (.var 3) (.int .i64 2))
    (.ret [(.fneg (.var 4)), (.fneg (.var 5))])
    (.ret [(.var 4), (.var 5)])))))
def Ss_l8Wide : List Spec := [SP_sFracWide, SP_sWideTimes, SP_sWideOver]
-- part wide
/-- The k-th layer's index. -/
def layI (c : Value) (k : Nat) : Q := (rq c k 0, rq c k 1, rq c k 2)
def wideOk (x c : Value) (a b : Q) : Bool := (allB (layP c) 0 (rlen x) && decide (lenV x ≤ 8)) && idxQ a && idxQ b
def wN (c : Value) (n k : Nat) : CF := idxF (layI c (n - 1 - k))
def wT (c : Value) (n k : Nat) : Int := rq c (n - 1 - k) 3
def wFilmSpec : Spec := fun ins K => Fit4 (ins.getD 0 undef) (ins.getD 7 undef) ∧
  (wideOk (ins.getD 0 undef) (ins.getD 7 undef) (q3 ins 1) (q3 ins 4) = true → ∀ v, WideRes (wN (ins.getD 7 undef) (rlen (ins.getD 0 undef))) (wT (ins.getD 7 undef) (rlen (ins.getD 0 undef))) (idxF (q3 ins 1)) (idxF (q3 ins 4)) (rlen (ins.getD 0 undef)) v → K [v, .bool true]) ∧
  (wideOk (ins.getD 0 undef) (ins.getD 7 undef) (q3 ins 1) (q3 ins 4) = false → K [cxv (0, 0), .bool false])
theorem idx_val {v : Q} (h : idxQ v = true) : validQ v = true ∧ ¬ (v.1 = 0 ∧ v.2.1 = 0) := by
  unfold idxQ at h
  rw [Bool.and_eq_true] at h
  refine ⟨h.1, fun hz => ?_⟩
  rw [hz.1, hz.2] at h
  simp at h
theorem layP_val {c : Value} {k : Nat} (h : layP c k = true) : idxQ (layI c k) = true ∧ 0 ≤ rq c k 3 ∧ rq c k 3 ≤ 3 := by
  unfold layP at h
  rw [Bool.and_eq_true] at h
  refine ⟨h.1, ?_⟩
  have := h.2
  simp only [inRg, Bool.and_eq_true, decide_eq_true_eq] at this
  exact this
/-- All that a film that is valid says. -/
theorem wide_facts {x c : Value} {a b : Q} {n : Nat} (hn : rlen x = n) (h : wideOk x c a b = true) : n ≤ 8 ∧ (∀ k, k < n → Dv (-36) 36 (wN c n k) ∧ 0 ≤ wT c n k ∧ wT c n k ≤ 3 ∧ validQ (layI c (n - 1 - k)) = true) ∧ idxQ a = true ∧ idxQ b = true ∧ BdC 36 (idxF a) ∧ BdC 36 (idxF b) := by
  unfold wideOk at h
  rw [hn] at h
  simp only [Bool.and_eq_true, decide_eq_true_eq] at h
  obtain ⟨⟨⟨h1, h2⟩, h3⟩, h4⟩ := h
  have h8 : n ≤ 8 := by unfold rlen at hn; omega
  obtain ⟨a1, a2⟩ := idx_val h3
  obtain ⟨b1, b2⟩ := idx_val h4
  refine ⟨h8, fun k hk => ?_, h3, h4, (idx_dv a1 a2).bd, (idx_dv b1 b2).bd⟩
  obtain ⟨p1, p2, p3⟩ := layP_val (allB_get h1 (n - 1 - k) (Nat.zero_le _) (by omega))
  obtain ⟨v1, v2⟩ := idx_val p1
  exact ⟨idx_dv v1 v2, p2, p3, v1⟩
theorem odd_ok {c : Value} {n k : Nat} {b : CF} (hn : n ≤ 8) (h : ∀ k, k < n → Dv (-36) 36 (wN c n k) ∧ 0 ≤ wT c n k ∧ wT c n k ≤ 3 ∧ validQ (layI c (n - 1 - k)) = true) (hb : BdC 36 b) (hk : k < n) : OddOk (wN c n k) (wRun (wN c n) (wT c n) b k).1 (wRun (wN c n) (wT c n) b k).2 := by
  obtain ⟨b1, b2⟩ := wRun_bd (qt := wT c n) hn (fun k hk => (h k hk).1) hb k (by omega)
  obtain ⟨e1, e2, e3, e4, _⟩ := odd_bd (h k hk).1 b1 b2 (by omega) (by omega)
  exact ⟨e1, e2, e3, e4⟩
theorem fw_use {ins : List Value} {v : Q} (he : q3 ins 0 = v) (hv : validQ v = true) {K : List Value → Prop} (hk : K [cxv (idxF v), .bool true]) : fWideSpec ins K := by
  subst he
  exact ⟨fun _ => hk, fun h => by rw [hv] at h; cases h⟩
theorem wf_use {ins : List Value} {K : List Value → Prop} {x c : Value} {a b : Q} {n : Nat} (e0 : ins.getD 0 undef = x) (e7 : ins.getD 7 undef = c) (ea : q3 ins 1 = a) (eb : q3 ins 4 = b) (hn : rlen x = n) (fit : Fit4 x c)
    (h1 : wideOk x c a b = true → ∀ v, WideRes (wN c n) (wT c n) (idxF a) (idxF b) n v → K [v, .bool true]) (h0 : wideOk x c a b = false → K [cxv (0, 0), .bool false]) : wFilmSpec ins K := by
  subst e0 e7 ea eb hn
  exact ⟨fit, h1, h0⟩
def SP_l8Wide : Spec := l8wSpec
theorem sat_l8Wide (P : Program) (ins : List Value) (K : List Value → Prop) (ht : TypedL [.int .i64, .int .i64, .int .i64, .int .i64, .cpx .f64, .cpx .f64] ins) (h : SP_l8Wide ins K) : sat P Ss_l8Wide tr_l8Wide ins [] K := by
  obtain ⟨a, r, rfl, _, t1⟩ := int_cons ht
  obtain ⟨b, r, rfl, _, t2⟩ := int_cons t1
  obtain ⟨c, r, rfl, _, t3⟩ := int_cons t2
  obtain ⟨qt, r, rfl, _, t4⟩ := int_cons t3
  obtain ⟨u, w, rfl, _, _⟩ := two_of t4
  obtain ⟨p, q, h1, h2, hv, hq, ⟨e1, e2, e3, e4⟩, hK⟩ := h
  have h1 : u = cxv p := h1
  have h2 : w = cxv q := h2
  subst h1 h2
  have hv : validQ (a, b, c) = true := hv
  have hq : 0 ≤ qt ∧ qt ≤ 3 := hq
  have hK : K [cxv (wStep (idxF (a, b, c)) qt p q).1, cxv (wStep (idxF (a, b, c)) qt p q).2] := hK
  have e2 : cQuoBits (wMul iF q).1 (wMul iF q).2 (idxF (a, b, c)).1 (idxF (a, b, c)).2 = some (wQuo (wMul iF q) (idxF (a, b, c))) := e2
  have e3 : cMulBits iF.1 iF.2 (idxF (a, b, c)).1 (idxF (a, b, c)).2 = some (wMul iF (idxF (a, b, c))) := e3
  have e4 : cMulBits (wMul iF (idxF (a, b, c))).1 (wMul iF (idxF (a, b, c))).2 p.1 p.2 = some (wMul (wMul iF (idxF (a, b, c))) p) := e4
  refine evs_step (call_step (sp := fWideSpec) rfl (fw_use (v := (a, b, c)) rfl hv (evs_nil ?_)))
  generalize idxF (a, b, c) = n at *
  have odd : ∀ {t : Tr}, sat P Ss_l8Wide t ([.int .i64 a, .int .i64 b, .int .i64 c, .int .i64 qt, cxv p, cxv q] ++ [cxv n, .bool true] ++ [cxv (wMul iF q)] ++ [cxv (wQuo (wMul iF q) n)] ++ [cxv (wMul iF n)] ++ [cxv (wMul (wMul iF n) p)]) [] K →
      sat P Ss_l8Wide (.evs [.call 1 [(.val (.complex .f64 0 4607182418800017408)), (.var 5)] none 1, .call 2 [(.var 8), (.var 6)] none 1] (.evs [.call 1 [(.val (.complex .f64 0 4607182418800017408)), (.var 6)] none 1, .call 1 [(.var 10), (.var 4)] none 1] t)) ([.int .i64 a, .int .i64 b, .int .i64 c, .int .i64 qt, cxv p, cxv q] ++ [cxv n, .bool true]) [] K := fun h =>
    evs_step (call_step (sp := wTimesSpec) rfl (wm_use (x := iF) (y := q) e1 (call_step (sp := wOverSpec) rfl (wq_use (x := wMul iF q) (y := n) e2 (evs_nil
      (evs_step (call_step (sp := wTimesSpec) rfl (wm_use (x := iF) (y := n) e3 (call_step (sp := wTimesSpec) rfl (wm_use (x := wMul iF n) (y := p) e4 (evs_nil h)))))))))))
  rcases (by omega : qt = 0 ∨ qt = 1 ∨ qt = 2 ∨ qt = 3) with rfl | rfl | rfl | rfl
  · exact sat_ite0 rfl (sat_ite0 rfl (sat_ite0 rfl hK))
  · refine sat_ite1 rfl (sat_ite1 rfl (odd ?_))
    exact sat_ite0 rfl hK
  · exact sat_ite0 rfl (sat_ite0 rfl (sat_ite1 rfl hK))
  · refine sat_ite0 rfl (sat_ite1 rfl (odd ?_))
    exact sat_ite1 rfl hK

def tr_l8Given : Tr :=
  (.evs [.call 0 [(.var 0), (.var 7)] none 1,
    .call 1 [(.var 1), (.var 2), (.var 3)] (some (.var 8)) 1,
    .call 1 [(.var 4), (.var 5), (.var 6)] (some (.ite (.var 8) (.var 9) (.bool false))) 1]
  (.ret [(.ite (.ite (.ite (.var 8) (.var 9) (.bool false)) (.var 10) (.bool false)) (.not (.ite (.ite (.cmp .eql (.var 1) (.int .i64 0)) (.cmp .eql (.var 2) (.int .i64 0)) (.bool false)) (.bool true) (.ite (.cmp .eql (.var 4) (.int .i64 0)) (.cmp .eql (.var 5) (.int .i64 0)) (.bool false)))) (.bool false))]))
def Fs_l8Given : List Fun1 := [F_sFilmValid, G_sFracValid]
def F_l8Given : Fun1 := ofTree Fs_l8Given tr_l8Given
def G_l8Given : Fun1 := ⟨fun ins => Fit4 (ins.getD 0 undef) (ins.getD 7 undef), fun ins => [.bool (wideOk (ins.getD 0 undef) (ins.getD 7 undef) (q3 ins 1) (q3 ins 4))]⟩
theorem as_l8Given (ins : List Value) (ht : TypedL [.sl, .int .i64, .int .i64, .int .i64, .int .i64, .int .i64, .int .i64, .row .i64 4] ins) (hp : G_l8Given.pre ins) : F_l8Given.pre ins ∧ F_l8Given.out ins = G_l8Given.out ins := by
  obtain ⟨x, r, rfl, hx, ht1⟩ := TypedL_cons ht
  obtain ⟨a0, r, rfl, _, ht2⟩ := int_cons ht1
  obtain ⟨a1, r, rfl, _, ht3⟩ := int_cons ht2
  obtain ⟨a2, r, rfl, _, ht4⟩ := int_cons ht3
  obtain ⟨b0', r, rfl, _, ht5⟩ := int_cons ht4
  obtain ⟨b1, r, rfl, _, ht6⟩ := int_cons ht5
  obtain ⟨b2, r, rfl, _, ht7⟩ := int_cons ht6
  obtain ⟨c, r, rfl, hc, ht8⟩ := TypedL_cons ht7
  obtain rfl := TypedL_nil ht8
  have hp : Fit4 x c := hp
  have hout : G_l8Given.out [x, .int .i64 a0, .int .i64 a1, .int .i64 a2, .int .i64 b0', .int .i64 b1, .int .i64 b2, c] = [.bool ((allB (layP c) 0 (rlen x) && decide (lenV x ≤ 8)) && (validI a0 a1 a2 && !(a0 == 0 && a1 == 0)) && (validI b0' b1 b2 && !(b0' == 0 && b1 == 0)))] := rfl
  rw [hout]
  simp only [F_l8Given, tr_l8Given, Fs_l8Given, F_sFilmValid, F_iFilmValid, G_sFracValid, hp, ofTree, okT, okE, evalT, evalE, evsIn, ev, callF, preF, hasF, needs, i0, b0, toI_int, toB_bool, List.getD_cons_zero, List.getD_cons_succ, List.cons_append, List.nil_append, List.replicate, if_true, if_false, Bool.false_eq_true, and_true, true_and, implies_true, forall_const, false_implies, cmpI, Bool.not_true, Bool.not_false, Bool.true_and, Bool.false_and, Bool.and_true, Bool.and_false, reduceIte, List.append_nil, reduceCtorEq]
  generalize (allB (layP c) 0 (rlen x) && decide (lenV x ≤ 8)) = V at *
  generalize validI a0 a1 a2 = A at *
  generalize validI b0' b1 b2 = B at *
  generalize (a0 == 0) = p at *
  generalize (a1 == 0) = q at *
  generalize (b0' == 0) = u at *
  generalize (b1 == 0) = w at *
  cases V <;> cases A <;> cases B <;> cases p <;> cases q <;> cases u <;> cases w <;> simp

def tr_iFilmWide : Tr :=
  (.evs [.call 0 [(.var 0), (.var 7)] none 1,
    .call 1 [(.var 1), (.var 2), (.var 3)] (some (.not (.not (.var 8)))) 1,
    .call 1 [(.var 4), (.var 5), (.var 6)] (some (.not (.ite (.not (.var 8)) (.bool true) (.not (.var 9))))) 1]
  (.ite (.ite (.ite (.not (.var 8)) (.bool true) (.not (.var 9))) (.bool true) (.not (.var 10)))
  (.ret [(.val (.complex .f64 0 0)), (.bool false)])
  (.evs [.call 2 [(.var 4), (.var 5), (.var 6)] none 2]
   (.evs [.call 3 [(.var 0), (.var 7)] none 2]
   (.lp 0 [(.int .i64 0), (.val (.complex .f64 4607182418800017408 0)), (.var 11)] [.int .i64, .cpx .f64, .cpx .f64]
   (.ite (.cmp .lss (.var 15) (.len (.var 13)))
    (.evs [.need [(.inb (.var 14) (.var 15) 4)]]
     (.evs [.call 2 [(.sel (.var 14) (.var 15) 4 0), (.sel (.var 14) (.var 15) 4 1), (.sel (.var 14) (.var 15) 4 2)] none 2]
     (.evs [.need [(.bool true)]]
     (.ite (.cmp .eql (.ar .rem .i64 (.sel (.var 14) (.var 15) 4 3) (.int .i64 2)) (.int .i64 1))
     (.evs [.call 4 [(.val (.complex .f64 0 4607182418800017408)), (.var 17)] none 1,
        .call 5 [(.var 20), (.var 18)] none 1,
        .call 4 [(.val (.complex .f64 0 4607182418800017408)), (.var 18)] none 1,
        .call 4 [(.var 22), (.var 16)] none 1]
      (.ite (.cmp .geq (.sel (.var 14) (.var 15) 4 3) (.int .i64 2))
      (.next 0 [(.ar .add .i64 (.var 15) (.int .i64 1)), (.fneg (.var 21)), (.fneg (.var 23))])
      (.next 0 [(.ar .add .i64 (.var 15) (.int .i64 1)), (.var 21), (.var 23)])))
     (.ite (.cmp .geq (.sel (.var 14) (.var 15) 4 3) (.int .i64 2))
      (.next 0 [(.ar .add .i64 (.var 15) (.int .i64 1)), (.fneg (.var 16)), (.fneg (.var 17))])
      (.next 0 [(.ar .add .i64 (.var 15) (.int .i64 1)), (.var 16), (.var 17)]))))))
    (.evs [.call 2 [(.var 1), (.var 2), (.var 3)] none 2]
     (.evs [.call 4 [(.var 18), (.var 16)] none 1]
     (.evs [.prim (.ca .sub .f64) [(.var 20), (.var 17)],
       .prim (.ca .add .f64) [(.var 20), (.var 17)],
       .call 5 [(.var 21), (.var 22)] none 1]
     (.ret [(.var 23), (.bool true)]))))))))))
def Ss_iFilmWide : List Spec := [F_iFilmValid.spec, G_indexOk.spec, SP_iFracWide, SP_revL, SP_iWideTimes, SP_iWideOver]
def SP_iFilmWide : Spec := wFilmSpec
theorem film_of {ins : List Value} (ht : TypedL [.sl, .int .i64, .int .i64, .int .i64, .int .i64, .int .i64, .int .i64, .row .i64 4] ins) (hf : Fit4 (ins.getD 0 undef) (ins.getD 7 undef)) :
    ∃ (a : Option Addr) (n cap : Nat) (c : Value) (g : Nat → Int), ins = [.slice a n cap, .int .i64 (g 0), .int .i64 (g 1), .int .i64 (g 2), .int .i64 (g 3), .int .i64 (g 4), .int .i64 (g 5), c] ∧ c.cells.size = n * 4 ∧ n ≤ 9223372036854775807 ∧ HasTy (.row .i64 4) c := by
  obtain ⟨x, r, rfl, hx, ht1⟩ := TypedL_cons ht
  obtain ⟨a0, r, rfl, _, ht2⟩ := int_cons ht1
  obtain ⟨a1, r, rfl, _, ht3⟩ := int_cons ht2
  obtain ⟨a2, r, rfl, _, ht4⟩ := int_cons ht3
  obtain ⟨b0', r, rfl, _, ht5⟩ := int_cons ht4
  obtain ⟨b1, r, rfl, _, ht6⟩ := int_cons ht5
  obtain ⟨b2, r, rfl, _, ht7⟩ := int_cons ht6
  obtain ⟨c, r, rfl, hc, ht8⟩ := TypedL_cons ht7
  obtain rfl := TypedL_nil ht8
  obtain ⟨a, n, cap, rfl, hc4, hn⟩ : Fit4 x c := hf
  exact ⟨a, n, cap, c, fun i => match i with | 0 => a0 | 1 => a1 | 2 => a2 | 3 => b0' | 4 => b1 | _ => b2, rfl, hc4, hn, hc⟩
theorem sat_iFilmWide (P : Program) (ins : List Value) (K : List Value → Prop) (ht : TypedL [.sl, .int .i64, .int .i64, .int .i64, .int .i64, .int .i64, .int .i64, .row .i64 4] ins) (h : SP_iFilmWide ins K) : sat P Ss_iFilmWide tr_iFilmWide ins [] K := by
  obtain ⟨hf, h1, h0⟩ := h
  obtain ⟨a, n, cap, c, g, rfl, hc, hn, hcT⟩ := film_of ht hf
  have h1 : wideOk (.slice a n cap) c (g 0, g 1, g 2) (g 3, g 4, g 5) = true → ∀ v, WideRes (wN c n) (wT c n) (idxF (g 0, g 1, g 2)) (idxF (g 3, g 4, g 5)) n v → K [v, .bool true] := h1
  have h0 : wideOk (.slice a n cap) c (g 0, g 1, g 2) (g 3, g 4, g 5) = false → K [cxv (0, 0), .bool false] := h0
  have hw : wideOk (.slice a n cap) c (g 0, g 1, g 2) (g 3, g 4, g 5) = ((allB (layP c) 0 n && decide ((n : Int) ≤ 8)) && idxQ (g 0, g 1, g 2) && idxQ (g 3, g 4, g 5)) := rfl
  have fit : Fit4 (.slice a n cap) c := ⟨a, n, cap, rfl, hc, hn⟩
  refine evs_step (call_step (sp := F_iFilmValid.spec) rfl ⟨fit, ?_⟩)
  have eV : F_iFilmValid.out [.slice a n cap, c] = [.bool (allB (layP c) 0 n && decide ((n : Int) ≤ 8))] := rfl
  show evSat P _ _ ([Value.slice a n cap, .int .i64 (g 0), .int .i64 (g 1), .int .i64 (g 2), .int .i64 (g 3), .int .i64 (g 4), .int .i64 (g 5), c] ++ F_iFilmValid.out [.slice a n cap, c]) _
  rw [eV]
  cases hV : (allB (layP c) 0 n && decide ((n : Int) ≤ 8)) with
  | false =>
    refine ⟨fun h => (by cases h), fun _ => ⟨fun h => (by cases h), fun _ => evs_nil (sat_ite1 rfl ?_)⟩⟩
    exact h0 (by rw [hw, hV]; rfl)
  | true =>
    refine ⟨fun _ => ⟨trivial, ?_⟩, fun h => (by cases h)⟩
    have eA : G_indexOk.out [.int .i64 (g 0), .int .i64 (g 1), .int .i64 (g 2)] = [.bool (idxQ (g 0, g 1, g 2))] := rfl
    show evSat P _ _ ([Value.slice a n cap, .int .i64 (g 0), .int .i64 (g 1), .int .i64 (g 2), .int .i64 (g 3), .int .i64 (g 4), .int .i64 (g 5), c, .bool true] ++ G_indexOk.out [.int .i64 (g 0), .int .i64 (g 1), .int .i64 (g 2)]) _
    rw [eA]
    cases hA : idxQ (g 0, g 1, g 2) with
    | false =>
      refine ⟨fun h => (by cases h), fun _ => evs_nil (sat_ite1 rfl ?_)⟩
      exact h0 (by rw [hw, hV, hA]; rfl)
    | true =>
      refine ⟨fun _ => ⟨trivial, ?_⟩, fun h => (by cases h)⟩
      have eB : G_indexOk.out [.int .i64 (g 3), .int .i64 (g 4), .int .i64 (g 5)] = [.bool (idxQ (g 3, g 4, g 5))] := rfl
      show evSat P _ _ ([Value.slice a n cap, .int .i64 (g 0), .int .i64 (g 1), .int .i64 (g 2), .int .i64 (g 3), .int .i64 (g 4), .int .i64 (g 5), c, .bool true, .bool true] ++ G_indexOk.out [.int .i64 (g 3), .int .i64 (g 4), .int .i64 (g 5)]) _
      rw [eB]
      cases hB : idxQ (g 3, g 4, g 5) with
      | false => exact evs_nil (sat_ite1 rfl (h0 (by rw [hw, hV, hA, hB]; rfl)))
      | true =>
        have hok : wideOk (.slice a n cap) c (g 0, g 1, g 2) (g 3, g 4, g 5) = true := by rw [hw, hV, hA, hB]; rfl
        have hK := h1 hok
        obtain ⟨h8, hl, _, _, bA, bB⟩ := wide_facts (n := n) rfl hok
        refine evs_nil (sat_ite0 rfl (evs_step (call_step (sp := fWideSpec) rfl (fw_use (v := (g 3, g 4, g 5)) rfl (idx_val hB).1 (evs_nil ?_)))))
        refine evs_step (call_step (sp := revSpec) rfl ⟨fit, by show n ≤ 1048576; omega, fun a2 cap2 => evs_nil ?_⟩)
        show sat P _ _ [Value.slice a n cap, .int .i64 (g 0), .int .i64 (g 1), .int .i64 (g 2), .int .i64 (g 3), .int .i64 (g 4), .int .i64 (g 5), c, .bool true, .bool true, .bool true, cxv (idxF (g 3, g 4, g 5)), .bool true, .slice a2 n cap2, revR c n] _ K
        refine ⟨fun vs => ∃ k : Nat, k ≤ n ∧ vs = [.int .i64 k, cxv (wRun (wN c n) (wT c n) (idxF (g 3, g 4, g 5)) k).1, cxv (wRun (wN c n) (wT c n) (idxF (g 3, g 4, g 5)) k).2], fun vs => n - (toI (vs.getD 0 undef)).toNat, ⟨0, Nat.zero_le _, rfl⟩, ?_⟩
        rintro vs hty ⟨k, hk, rfl⟩
        refine sat_ite (b := decide ((k : Int) < (n : Int))) rfl (fun h => ?_) (fun h => ?_)
        · have hlt : k < n := by simpa using h
          have hin := inb_ok (revR_size c n) hlt
          have e0 : rq (revR c n) k 0 = rq c (n - 1 - k) 0 := revR_rq c hlt (by omega)
          have e1 : rq (revR c n) k 1 = rq c (n - 1 - k) 1 := revR_rq c hlt (by omega)
          have e2 : rq (revR c n) k 2 = rq c (n - 1 - k) 2 := revR_rq c hlt (by omega)
          have e3 : rq (revR c n) k 3 = wT c n k := revR_rq c hlt (by omega)
          have eI : (rq (revR c n) k 0, rq (revR c n) k 1, rq (revR c n) k 2) = layI c (n - 1 - k) := by rw [e0, e1, e2]; rfl
          obtain ⟨_, t0, t3, hv⟩ := hl k hlt
          obtain ⟨o1, o2, o3, o4⟩ := odd_ok (b := idxF (g 3, g 4, g 5)) h8 hl bB hlt
          have hst : wRun (wN c n) (wT c n) (idxF (g 3, g 4, g 5)) (k + 1) = wStep (wN c n k) (wT c n k) (wRun (wN c n) (wT c n) (idxF (g 3, g 4, g 5)) k).1 (wRun (wN c n) (wT c n) (idxF (g 3, g 4, g 5)) k).2 := rfl
          have hnx : ∀ u w : CF, wStep (wN c n k) (wT c n k) (wRun (wN c n) (wT c n) (idxF (g 3, g 4, g 5)) k).1 (wRun (wN c n) (wT c n) (idxF (g 3, g 4, g 5)) k).2 = (u, w) → (∃ j : Nat, j ≤ n ∧ [Value.int .i64 (IntKind.i64.wrap ((k : Int) + 1)), cxv u, cxv w] = [.int .i64 j, cxv (wRun (wN c n) (wT c n) (idxF (g 3, g 4, g 5)) j).1, cxv (wRun (wN c n) (wT c n) (idxF (g 3, g 4, g 5)) j).2]) ∧
              n - (toI (.int .i64 (IntKind.i64.wrap ((k : Int) + 1)))).toNat < n - (toI (.int .i64 (k : Int))).toNat := fun u w e => by
            rw [wrap_next hlt hn]
            refine ⟨⟨k + 1, by omega, by rw [hst, e]⟩, ?_⟩
            simp only [toI_int, Int.toNat_natCast]
            omega
          generalize hpq : wRun (wN c n) (wT c n) (idxF (g 3, g 4, g 5)) k = pq at *
          refine evs_step ⟨fun e he => by rw [List.mem_singleton.1 he]; exact hin, evs_nil (evs_step (call_step (sp := fWideSpec) rfl (fw_use (v := layI c (n - 1 - k)) (by exact eI) hv (evs_nil ?_))))⟩
          show sat P _ _ [Value.slice a n cap, .int .i64 (g 0), .int .i64 (g 1), .int .i64 (g 2), .int .i64 (g 3), .int .i64 (g 4), .int .i64 (g 5), c, .bool true, .bool true, .bool true, cxv (idxF (g 3, g 4, g 5)), .bool true, .slice a2 n cap2, revR c n, .int .i64 k, cxv pq.1, cxv pq.2, cxv (idxF (layI c (n - 1 - k))), .bool true] _ K
          have eW : idxF (layI c (n - 1 - k)) = wN c n k := rfl
          rw [eW]
          refine evs_step ⟨fun e he => by rw [List.mem_singleton.1 he]; rfl, evs_nil ?_⟩
          generalize hW : wN c n k = W at *
          generalize hT : wT c n k = T at *
          refine sat_ite (b := (T.tmod 2 == 1)) (by show Value.bool ((rq (revR c n) k 3).tmod 2 == 1) = _; rw [e3]) (fun h => ?_) (fun h => ?_)
          · refine evs_step (call_step (sp := wTimesSpec) rfl (wm_use (x := iF) (y := pq.2) o1 (call_step (sp := wOverSpec) rfl (wq_use (x := wMul iF pq.2) (y := W) o2 (call_step (sp := wTimesSpec) rfl (wm_use (x := iF) (y := W) o3 (call_step (sp := wTimesSpec) rfl (wm_use (x := wMul iF W) (y := pq.1) o4 (evs_nil ?_)))))))))
            refine sat_ite (b := decide (T ≥ 2)) (by show Value.bool (decide (rq (revR c n) k 3 ≥ 2)) = _; rw [e3]) (fun h' => ?_) (fun h' => ?_)
            · obtain rfl : T = 3 := by
                rcases (by omega : T = 0 ∨ T = 1 ∨ T = 2 ∨ T = 3) with rfl | rfl | rfl | rfl <;> first | rfl | (exact absurd h (by decide)) | (exact absurd h' (by decide))
              exact hnx _ _ rfl
            · obtain rfl : T = 1 := by
                rcases (by omega : T = 0 ∨ T = 1 ∨ T = 2 ∨ T = 3) with rfl | rfl | rfl | rfl <;> first | rfl | (exact absurd h (by decide)) | (exact absurd h' (by decide))
              exact hnx _ _ rfl
          · refine sat_ite (b := decide (T ≥ 2)) (by show Value.bool (decide (rq (revR c n) k 3 ≥ 2)) = _; rw [e3]) (fun h' => ?_) (fun h' => ?_)
            · obtain rfl : T = 2 := by
                rcases (by omega : T = 0 ∨ T = 1 ∨ T = 2 ∨ T = 3) with rfl | rfl | rfl | rfl <;> first | rfl | (exact absurd h (by decide)) | (exact absurd h' (by decide))
              exact hnx _ _ rfl
            · obtain rfl : T = 0 := by
                rcases (by omega : T = 0 ∨ T = 1 ∨ T = 2 ∨ T = 3) with rfl | rfl | rfl | rfl <;> first | rfl | (exact absurd h (by decide)) | (exact absurd h' (by decide))
              exact hnx _ _ rfl
        · have hge : ¬ k < n := by simpa using h
          obtain rfl : k = n := by omega
          obtain ⟨m1, m2, m3, _, _⟩ := wEnds_bd (qt := wT c k) h8 (fun j hj => (hl j hj).1) bA bB
          refine evs_step (call_step (sp := fWideSpec) rfl (fw_use (v := (g 0, g 1, g 2)) rfl (idx_val hA).1 (evs_nil ?_)))
          refine evs_step (call_step (sp := wTimesSpec) rfl (wm_use (x := idxF (g 0, g 1, g 2)) m1 (evs_nil ?_)))
          refine evs_step (ca_step (.inr rfl) rfl rfl m2 (ca_step (.inl rfl) rfl rfl m3 (call_step (sp := wOverSpec) rfl ⟨_, _, rfl, fun v hv => evs_nil (hK v hv)⟩)))

def tr_sFilmWide : Tr :=
  (.evs [.call 0 [(.var 0), (.var 1), (.var 2), (.var 3), (.var 4), (.var 5), (.var 6), (.var 7)] none 1]
  (.ite (.not (.var 8))
  (.ret [(.val (.complex .f64 0 0)), (.bool false)])
  (.evs [.call 1 [(.var 4), (.var 5), (.var 6)] none 2]
   (.lp 0 [(.ar .sub .i64 (.len (.var 0)) (.int .i64 1)), (.val (.complex .f64 4607182418800017408 0)), (.var 9)] [.int .i64, .cpx .f64, .cpx .f64]
   (.ite (.cmp .geq (.var 11) (.int .i64 0))
    (.evs [.need [(.inb (.var 7) (.var 11) 4)],
       .call 2 [(.sel (.var 7) (.var 11) 4 0), (.sel (.var 7) (.var 11) 4 1), (.sel (.var 7) (.var 11) 4 2), (.sel (.var 7) (.var 11) 4 3), (.var 12), (.var 13)] none 2]
     (.next 0 [(.ar .sub .i64 (.var 11) (.int .i64 1)), (.var 14), (.var 15)]))
    (.evs [.call 1 [(.var 1), (.var 2), (.var 3)] none 2]
     (.evs [.call 3 [(.var 14), (.var 12)] none 1]
     (.evs [.prim (.ca .sub .f64) [(.var 16), (.var 13)],
       .prim (.ca .add .f64) [(.var 16), (.var 13)],
       .call 4 [(.var 17), (.var 18)] none 1]
     (.ret [(.var 19), (.bool true)])))))))))
def Ss_sFilmWide : List Spec := [G_l8Given.spec, SP_sFracWide, SP_l8Wide, SP_sWideTimes, SP_sWideOver]
def SP_sFilmWide : Spec := wFilmSpec
theorem sat_sFilmWide (P : Program) (ins : List Value) (K : List Value → Prop) (ht : TypedL [.sl, .int .i64, .int .i64, .int .i64, .int .i64, .int .i64, .int .i64, .row .i64 4] ins) (h : SP_sFilmWide ins K) : sat P Ss_sFilmWide tr_sFilmWide ins [] K := by
  obtain ⟨hf, h1, h0⟩ := h
  obtain ⟨a, n, cap, c, g, rfl, hc, hn, hcT⟩ := film_of ht hf
  have h1 : wideOk (.slice a n cap) c (g 0, g 1, g 2) (g 3, g 4, g 5) = true → ∀ v, WideRes (wN c n) (wT c n) (idxF (g 0, g 1, g 2)) (idxF (g 3, g 4, g 5)) n v → K [v, .bool true] := h1
  have h0 : wideOk (.slice a n cap) c (g 0, g 1, g 2) (g 3, g 4, g 5) = false → K [cxv (0, 0), .bool false] := h0
  have fit : Fit4 (.slice a n cap) c := ⟨a, n, cap, rfl, hc, hn⟩
  refine evs_step (call_step (sp := G_l8Given.spec) rfl ⟨fit, evs_nil ?_⟩)
  show sat P _ _ ([Value.slice a n cap, .int .i64 (g 0), .int .i64 (g 1), .int .i64 (g 2), .int .i64 (g 3), .int .i64 (g 4), .int .i64 (g 5), c] ++ [.bool (wideOk (.slice a n cap) c (g 0, g 1, g 2) (g 3, g 4, g 5))]) _ K
  cases hok : wideOk (.slice a n cap) c (g 0, g 1, g 2) (g 3, g 4, g 5) with
  | false => exact sat_ite1 rfl (h0 hok)
  | true =>
    have hK := h1 hok
    obtain ⟨h8, hl, hA, hB, bA, bB⟩ := wide_facts (n := n) rfl hok
    refine sat_ite0 rfl (evs_step (call_step (sp := fWideSpec) rfl (fw_use (v := (g 3, g 4, g 5)) rfl (idx_val hB).1 (evs_nil ?_))))
    show sat P _ _ [Value.slice a n cap, .int .i64 (g 0), .int .i64 (g 1), .int .i64 (g 2), .int .i64 (g 3), .int .i64 (g 4), .int .i64 (g 5), c, .bool true, cxv (idxF (g 3, g 4, g 5)), .bool true] _ K
    have hw0 : IntKind.i64.wrap ((n : Int) - 1) = (n : Int) - 1 - ((0 : Nat) : Int) := by rw [wrap_in (by omega)]; omega
    refine ⟨fun vs => ∃ k : Nat, k ≤ n ∧ vs = [.int .i64 ((n : Int) - 1 - k), cxv (wRun (wN c n) (wT c n) (idxF (g 3, g 4, g 5)) k).1, cxv (wRun (wN c n) (wT c n) (idxF (g 3, g 4, g 5)) k).2], fun vs => (toI (vs.getD 0 undef) + 1).toNat, ⟨0, Nat.zero_le _, ?_⟩, ?_⟩
    · show [Value.int .i64 (IntKind.i64.wrap ((n : Int) - 1)), cxv oneF, cxv (idxF (g 3, g 4, g 5))] = _
      rw [hw0]
      rfl
    rintro vs hty ⟨k, hk, rfl⟩
    refine sat_ite (b := decide ((n : Int) - 1 - (k : Int) ≥ 0)) rfl (fun h => ?_) (fun h => ?_)
    · have hlt : k < n := by
        have : (n : Int) - 1 - (k : Int) ≥ 0 := by simpa using h
        omega
      obtain ⟨_, t0, t3, hv⟩ := hl k hlt
      have hod := odd_ok (b := idxF (g 3, g 4, g 5)) h8 hl bB hlt
      have ek : (n : Int) - 1 - (k : Int) = ((n - 1 - k : Nat) : Int) := by omega
      have hin := inb_ok hc (show n - 1 - k < n by omega)
      have hst : wRun (wN c n) (wT c n) (idxF (g 3, g 4, g 5)) (k + 1) = wStep (wN c n k) (wT c n k) (wRun (wN c n) (wT c n) (idxF (g 3, g 4, g 5)) k).1 (wRun (wN c n) (wT c n) (idxF (g 3, g 4, g 5)) k).2 := rfl
      have hnx : (∃ j : Nat, j ≤ n ∧ [Value.int .i64 (IntKind.i64.wrap ((n : Int) - 1 - (k : Int) - 1)), cxv (wStep (wN c n k) (wT c n k) (wRun (wN c n) (wT c n) (idxF (g 3, g 4, g 5)) k).1 (wRun (wN c n) (wT c n) (idxF (g 3, g 4, g 5)) k).2).1, cxv (wStep (wN c n k) (wT c n k) (wRun (wN c n) (wT c n) (idxF (g 3, g 4, g 5)) k).1 (wRun (wN c n) (wT c n) (idxF (g 3, g 4, g 5)) k).2).2] = [.int .i64 ((n : Int) - 1 - j), cxv (wRun (wN c n) (wT c n) (idxF (g 3, g 4, g 5)) j).1, cxv (wRun (wN c n) (wT c n) (idxF (g 3, g 4, g 5)) j).2]) ∧
          (toI (.int .i64 (IntKind.i64.wrap ((n : Int) - 1 - (k : Int) - 1))) + 1).toNat < (toI (.int .i64 ((n : Int) - 1 - (k : Int))) + 1).toNat := by
        have hw : IntKind.i64.wrap ((n : Int) - 1 - (k : Int) - 1) = (n : Int) - 1 - ((k + 1 : Nat) : Int) := by rw [wrap_in (by omega)]; omega
        rw [hw]
        refine ⟨⟨k + 1, by omega, by rw [hst]⟩, ?_⟩
        simp only [toI_int]
        omega
      generalize hpq : wRun (wN c n) (wT c n) (idxF (g 3, g 4, g 5)) k = pq at *
      rw [ek] at hnx ⊢
      refine evs_step ⟨fun e he => by rw [List.mem_singleton.1 he]; exact hin, call_step (sp := l8wSpec) rfl ⟨pq.1, pq.2, rfl, rfl, hv, ⟨t0, t3⟩, hod, evs_nil ?_⟩⟩
      exact hnx
    · have hge : ¬ k < n := by
        have : ¬ (n : Int) - 1 - (k : Int) ≥ 0 := by simpa using h
        omega
      obtain rfl : k = n := by omega
      obtain ⟨m1, m2, m3, _, _⟩ := wEnds_bd (qt := wT c k) h8 (fun j hj => (hl j hj).1) bA bB
      refine evs_step (call_step (sp := fWideSpec) rfl (fw_use (v := (g 0, g 1, g 2)) rfl (idx_val hA).1 (evs_nil ?_)))
      refine evs_step (call_step (sp := wTimesSpec) rfl (wm_use (x := idxF (g 0, g 1, g 2)) m1 (evs_nil ?_)))
      refine evs_step (ca_step (.inr rfl) rfl rfl m2 (ca_step (.inl rfl) rfl rfl m3 (call_step (sp := wOverSpec) rfl ⟨_, _, rfl, fun v hv => evs_nil (hK v hv)⟩)))

def tr_sameFloat : Tr :=
  (.ite (.ite (.fcmp .neq (.var 0) (.var 0)) (.bool true) (.fcmp .neq (.var 1) (.var 1)))
  (.ret [(.ite (.fcmp .neq (.var 0) (.var 0)) (.fcmp .neq (.var 1) (.var 1)) (.bool false))])
  (.ite (.ite (.fcmp .eql (.var 0) (.val (.float .f64 0))) (.fcmp .eql (.var 1) (.val (.float .f64 0))) (.bool false))
   (.evs [.prim (.fa .quo .f64) [(.val (.float .f64 4607182418800017408)), (.var 0)],
      .prim (.fa .quo .f64) [(.val (.float .f64 4607182418800017408)), (.var 1)]]
    (.ret [(.eqb (.fcmp .gtr (.var 2) (.val (.float .f64 0))) (.fcmp .gtr (.var 3) (.val (.float .f64 0))))]))
   (.ret [(.fcmp .eql (.var 0) (.var 1))])))
def Fs_sameFloat : List Fun1 := []
def SP_sameFloat : Spec := fun ins K => ∃ x y : Nat, ins = [.float .f64 x, .float .f64 y] ∧ SameF x y ∧ K [.bool true]
theorem sat_sameFloat (P : Program) (ins : List Value) (K : List Value → Prop) (ht : TypedL [.flt .f64, .flt .f64] ins) (h : SP_sameFloat ins K) : sat P (specsOf Fs_sameFloat) tr_sameFloat ins [] K := by
  obtain ⟨x, y, rfl, hs, hK⟩ := h
  have nan : Op.Complex.isNaN x = true → Op.Complex.isNaN y = true → sat P (specsOf Fs_sameFloat) tr_sameFloat [.float .f64 x, .float .f64 y] [] K := fun nx ny => by
    have c1 : ev [Value.float .f64 x, .float .f64 y] (.fcmp .neq (.var 0) (.var 0)) = .bool true := by
      show Value.bool (FloatKind.f64.format.order x x != some .eq) = _
      rw [ord_nan nx]; rfl
    have c2 : ev [Value.float .f64 x, .float .f64 y] (.fcmp .neq (.var 1) (.var 1)) = .bool true := by
      show Value.bool (FloatKind.f64.format.order y y != some .eq) = _
      rw [ord_nan ny]; rfl
    refine sat_ite1 ?_ ?_
    · show (if toB (ev [Value.float .f64 x, .float .f64 y] (.fcmp .neq (.var 0) (.var 0))) = true then Value.bool true else ev [Value.float .f64 x, .float .f64 y] (.fcmp .neq (.var 1) (.var 1))) = _
      rw [c1]; rfl
    · show K [if toB (ev [Value.float .f64 x, .float .f64 y] (.fcmp .neq (.var 0) (.var 0))) = true then ev [Value.float .f64 x, .float .f64 y] (.fcmp .neq (.var 1) (.var 1)) else Value.bool false]
      rw [c1, c2]
      exact hK
  rcases hs with rfl | ⟨nx, ny⟩
  · cases nx : Op.Complex.isNaN x with
    | true => exact nan nx nx
    | false =>
      have c1 : ev [Value.float .f64 x, .float .f64 x] (.fcmp .neq (.var 0) (.var 0)) = .bool false := by
        show Value.bool (FloatKind.f64.format.order x x != some .eq) = _
        rw [ord_self nx]; rfl
      refine sat_ite0 ?_ ?_
      · show (if toB (ev [Value.float .f64 x, .float .f64 x] (.fcmp .neq (.var 0) (.var 0))) = true then Value.bool true else ev [Value.float .f64 x, .float .f64 x] (.fcmp .neq (.var 0) (.var 0))) = _
        rw [c1]; rfl
      cases hz : (FloatKind.f64.format.order x 0 == some .eq) with
      | true =>
        refine sat_ite1 ?_ ?_
        · show (if toB (Value.bool (FloatKind.f64.format.order x 0 == some .eq)) = true then Value.bool (FloatKind.f64.format.order x 0 == some .eq) else Value.bool false) = _
          rw [hz]; rfl
        · obtain ⟨s, e, hr⟩ := ord_zero (by simpa using hz)
          obtain ⟨r, hq⟩ := one_over_zero hr
          refine evs_step (fa_step rfl rfl hq (fa_step rfl rfl hq (evs_nil ?_)))
          show K [.bool (fcmpV .gtr (.float .f64 r) (.float .f64 0) == fcmpV .gtr (.float .f64 r) (.float .f64 0))]
          rw [beq_self_eq_true]
          exact hK
      | false =>
        refine sat_ite0 ?_ ?_
        · show (if toB (Value.bool (FloatKind.f64.format.order x 0 == some .eq)) = true then Value.bool (FloatKind.f64.format.order x 0 == some .eq) else Value.bool false) = _
          rw [hz]; rfl
        · show K [.bool (FloatKind.f64.format.order x x == some .eq)]
          rw [ord_self nx]
          exact hK
  · exact nan nx ny

def tr_sameComplex : Tr :=
  (.evs [.call 0 [(.cre (.var 0)), (.cre (.var 1))] none 1,
    .call 0 [(.cim (.var 0)), (.cim (.var 1))] (some (.var 2)) 1]
  (.ret [(.ite (.var 2) (.var 3) (.bool false))]))
def Ss_sameComplex : List Spec := [SP_sameFloat]
def SP_sameComplex : Spec := fun ins K => ∃ a b c d : Nat, ins = [.complex .f64 a b, .complex .f64 c d] ∧ SameF a c ∧ SameF b d ∧ K [.bool true]
theorem sat_sameComplex (P : Program) (ins : List Value) (K : List Value → Prop) (ht : TypedL [.cpx .f64, .cpx .f64] ins) (h : SP_sameComplex ins K) : sat P Ss_sameComplex tr_sameComplex ins [] K := by
  obtain ⟨a, b, c, d, rfl, h1, h2, hK⟩ := h
  exact evs_step (call_step (sp := SP_sameFloat) rfl ⟨a, c, rfl, h1, ⟨fun _ => ⟨b, d, rfl, h2, evs_nil hK⟩, fun h => (by cases h)⟩⟩)

def tr_FnExactFilmWide : Tr :=
  (.evs [.call 0 [(.var 0), (.int .i64 1048576)] none 1]
  (.ite (.cmp .lss (.var 8) (.int .i64 0))
  (.ret [(.bool true)])
  (.evs [.call 1 [(.var 0), (.var 7)] none 2,
     .call 2 [(.var 1), (.var 2), (.var 3)] none 3,
     .call 2 [(.var 4), (.var 5), (.var 6)] none 3,
     .call 3 [(.var 9), (.var 11), (.var 12), (.var 13), (.var 14), (.var 15), (.var 16), (.var 10)] none 2]
   (.evs [.call 1 [(.var 0), (.var 7)] none 2]
   (.evs [.call 2 [(.var 1), (.var 2), (.var 3)] none 3,
     .call 2 [(.var 4), (.var 5), (.var 6)] none 3,
     .call 4 [(.var 19), (.var 21), (.var 22), (.var 23), (.var 24), (.var 25), (.var 26), (.var 20)] none 2]
   (.evs [.call 5 [(.var 27), (.var 17)] none 1]
   (.ite (.ite (.not (.var 29)) (.bool true) (.not (.eqb (.var 28) (.var 18))))
   (.ret [(.bool false)])
   (.evs [.call 1 [(.var 0), (.var 7)] none 2,
      .call 6 [(.var 19), (.var 30), (.var 20), (.var 31)] none 1]
    (.ite (.not (.var 32))
    (.ret [(.bool false)])
    (.ret [(.bool true)]))))))))))
def Ss_FnExactFilmWide : List Spec := [F_szL.spec, SP_toL, F_toFrac.spec, SP_sFilmWide, SP_iFilmWide, SP_sameComplex, F_eqLayerS.spec]
def F_FnExactFilmWide : Fun1 := ⟨fun ins => Fit4 (ins.getD 0 undef) (ins.getD 7 undef), fun _ => [.bool true]⟩
set_option maxHeartbeats 2000000 in
theorem sat_FnExactFilmWide (P : Program) (ins : List Value) (K : List Value → Prop) (ht : TypedL [.sl, .int .i64, .int .i64, .int .i64, .int .i64, .int .i64, .int .i64, .row .i64 4] ins) (hf : F_FnExactFilmWide.pre ins) (hK : K (F_FnExactFilmWide.out ins)) : sat P Ss_FnExactFilmWide tr_FnExactFilmWide ins [] K := by
  obtain ⟨a, n, cap, c, g, rfl, hc, hn, hcT⟩ := film_of ht hf
  have hK : K [.bool true] := hK
  have fit : ∀ a cap, Fit4 (.slice a n cap) c := fun a cap => ⟨a, n, cap, rfl, hc, hn⟩
  have pf : ∀ ins, F_toFrac.pre ins := fun _ => okT_free (fun F hF => by cases hF) _ _ (by kernel_rfl)
  have ok_sl : ∀ (a a' : Option Addr) (cap cap' : Nat) (u w : Q), wideOk (.slice a n cap) c u w = wideOk (.slice a' n cap') c u w := fun _ _ _ _ _ _ => rfl
  refine evs_step (call_step (sp := F_szL.spec) rfl ⟨pre_szL _, evs_nil ?_⟩)
  show sat P _ _ ([Value.slice a n cap, .int .i64 (g 0), .int .i64 (g 1), .int .i64 (g 2), .int .i64 (g 3), .int .i64 (g 4), .int .i64 (g 5), c] ++ F_szL.out [.slice a n cap, .int .i64 1048576]) _ K
  by_cases hle : n ≤ 1048576
  · rw [szL_le hle]
    refine sat_ite0 (by show Value.bool (decide (1048576 - (n : Int) < 0)) = _; congr 1; simp; omega) ?_
    refine evs_step (call_step (sp := copySpec) rfl ⟨fit a cap, hle, fun p1 cap1 => ?_⟩)
    refine call_step (sp := F_toFrac.spec) rfl ⟨pf _, call_step (sp := F_toFrac.spec) rfl ⟨pf _, ?_⟩⟩
    have fin : ∀ (e f e' f' : Nat) (t : Bool) (p1 p2 : Option Addr) (cap1 cap2 : Nat), SameF e e' → SameF f f' → sat P Ss_FnExactFilmWide (.evs [.call 5 [(.var 27), (.var 17)] none 1]
        (.ite (.ite (.not (.var 29)) (.bool true) (.not (.eqb (.var 28) (.var 18)))) (.ret [(.bool false)])
        (.evs [.call 1 [(.var 0), (.var 7)] none 2, .call 6 [(.var 19), (.var 30), (.var 20), (.var 31)] none 1] (.ite (.not (.var 32)) (.ret [(.bool false)]) (.ret [(.bool true)])))))
        [Value.slice a n cap, .int .i64 (g 0), .int .i64 (g 1), .int .i64 (g 2), .int .i64 (g 3), .int .i64 (g 4), .int .i64 (g 5), c, .int .i64 (1048576 - (n : Int)), .slice p1 n cap1, c, .int .i64 (g 0), .int .i64 (g 1), .int .i64 (g 2), .int .i64 (g 3), .int .i64 (g 4), .int .i64 (g 5), .complex .f64 e' f', .bool t, .slice p2 n cap2, c, .int .i64 (g 0), .int .i64 (g 1), .int .i64 (g 2), .int .i64 (g 3), .int .i64 (g 4), .int .i64 (g 5), .complex .f64 e f, .bool t] [] K := by
      intro e f e' f' t p1 p2 cap1 cap2 s1 s2
      refine evs_step (call_step (sp := SP_sameComplex) rfl ⟨e, f, e', f', rfl, s1, s2, evs_nil (sat_ite0 ?_ ?_)⟩)
      · show Value.bool (!(t == t)) = _
        rw [beq_self_eq_true]; rfl
      refine evs_step (call_step (sp := copySpec) rfl ⟨fit a cap, hle, fun p3 cap3 => call_step (sp := F_eqLayerS.spec) rfl ⟨⟨fit p2 cap2, fit p3 cap3⟩, evs_nil (sat_ite0 ?_ hK)⟩⟩)
      show Value.bool (!(n == n && allB (sameP c c) 0 n)) = _
      rw [allB_true (same_self c), beq_self_eq_true]
      rfl
    refine call_step (sp := wFilmSpec) rfl (wf_use rfl rfl (a := (g 0, g 1, g 2)) (b := (g 3, g 4, g 5)) rfl rfl (n := n) rfl (fit p1 cap1) (fun hok v hv => evs_nil ?_) (fun hok => evs_nil ?_))
    · obtain ⟨h8, hl, _, _, bA, bB⟩ := wide_facts (n := n) rfl hok
      refine evs_step (call_step (sp := copySpec) rfl ⟨fit a cap, hle, fun p2 cap2 => evs_nil (evs_step ?_)⟩)
      refine call_step (sp := F_toFrac.spec) rfl ⟨pf _, call_step (sp := F_toFrac.spec) rfl ⟨pf _, ?_⟩⟩
      refine call_step (sp := wFilmSpec) rfl (wf_use rfl rfl (a := (g 0, g 1, g 2)) (b := (g 3, g 4, g 5)) rfl rfl (n := n) rfl (fit p2 cap2) (fun _ v' hv' => evs_nil ?_) (fun hno => ?_))
      · obtain ⟨e, f, e', f', rfl, rfl, s1, s2⟩ := wide_same (qt := wT c n) h8 (fun k hk => (hl k hk).1) bA bB hv' hv
        exact fin e f e' f' true p1 p2 cap1 cap2 s1 s2
      · exact absurd (hno.symm.trans hok) (by decide)
    · refine evs_step (call_step (sp := copySpec) rfl ⟨fit a cap, hle, fun p2 cap2 => evs_nil (evs_step ?_)⟩)
      refine call_step (sp := F_toFrac.spec) rfl ⟨pf _, call_step (sp := F_toFrac.spec) rfl ⟨pf _, ?_⟩⟩
      refine call_step (sp := wFilmSpec) rfl (wf_use rfl rfl (a := (g 0, g 1, g 2)) (b := (g 3, g 4, g 5)) rfl rfl (n := n) rfl (fit p2 cap2) (fun hyes v' hv' => ?_) (fun _ => evs_nil ?_))
      · exact absurd (hok.symm.trans hyes) (by decide)
      · exact fin 0 0 0 0 false p1 p2 cap1 cap2 (.inl rfl) (.inl rfl)
  · rw [szL_gt hle hn]
    exact sat_ite1 rfl hK
theorem law_FnExactFilmWide (ins : List Value) (h : Fit4 (ins.getD 0 undef) (ins.getD 7 undef)) : F_FnExactFilmWide.pre ins ∧ F_FnExactFilmWide.out ins = [.bool true] := ⟨h, rfl⟩

end Go.Sx

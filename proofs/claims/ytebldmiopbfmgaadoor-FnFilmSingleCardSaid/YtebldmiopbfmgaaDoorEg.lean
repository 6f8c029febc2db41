/- Floating numbers. A part of the proof of FnFilmSingle; no conditions. -/
import Derived.Test.YtebldmiopbfmgaaDoorEf
import Derived.Laws.ComplexQuo
set_option linter.unusedVariables false
set_option linter.unusedSimpArgs false
/- Floating numbers of 64 bits as rationals: what an operation gives is near to what it should be. No program in sight. -/
namespace Go.Sx
open Go Ieee
set_option linter.unusedVariables false
set_option linter.unusedSimpArgs false

/-! powers of two -/
def pw (k : Int) : Rat := (2 : Rat) ^ k
theorem two_ne : (2 : Rat) ≠ 0 := by decide
theorem pw_pos (k : Int) : 0 < pw k := Rat.zpow_pos (by decide)
theorem pw_add (a b : Int) : pw (a + b) = pw a * pw b := Rat.zpow_add two_ne a b
theorem pw_zero : pw 0 = 1 := Rat.zpow_zero 2
theorem pw_one : pw 1 = 2 := Rat.zpow_one 2
theorem pw_succ (a : Int) : pw (a + 1) = 2 * pw a := by rw [pw_add, pw_one, Rat.mul_comm]
theorem pw_nat (n : Nat) : pw (n : Int) = ((2 ^ n : Nat) : Rat) := by
  unfold pw
  rw [Rat.zpow_natCast, Rat.natCast_pow]
  rfl
theorem pw_le {a b : Int} (h : a ≤ b) : pw a ≤ pw b := by
  obtain ⟨n, rfl⟩ : ∃ n : Nat, b = a + n := ⟨(b - a).toNat, by omega⟩
  rw [pw_add, pw_nat]
  have h1 : (1 : Rat) ≤ ((2 ^ n : Nat) : Rat) := by
    have : 1 ≤ 2 ^ n := Nat.one_le_two_pow
    exact_mod_cast this
  have := Rat.mul_le_mul_of_nonneg_left h1 (Rat.le_of_lt (pw_pos a))
  rw [Rat.mul_one] at this
  exact this
theorem pw_lt {a b : Int} (h : pw a < pw b) : a < b := by
  rcases Int.lt_or_le a b with h1 | h1
  · exact h1
  · have := pw_le h1
    exact absurd h (Rat.not_lt.2 this)
/-- The magnitude of a datum. -/
def mg (m : Nat) (e : Int) : Rat := (m : Rat) * pw e
theorem mg_nn (m : Nat) (e : Int) : 0 ≤ mg m e := Rat.mul_nonneg (by exact_mod_cast Nat.zero_le m) (Rat.le_of_lt (pw_pos e))
theorem mg_shift (m s : Nat) (e : Int) : mg (m * 2 ^ s) (e - s) = mg m e := by
  unfold mg
  have h : pw e = pw (s : Int) * pw (e - s) := by rw [← pw_add]; congr 1; omega
  rw [h, pw_nat, Rat.natCast_mul, Rat.mul_assoc]
theorem mg_log {m : Nat} (hm : m ≠ 0) (e : Int) : pw (m.log2 + e) ≤ mg m e ∧ mg m e < pw (m.log2 + e + 1) := by
  have h1 : 2 ^ m.log2 ≤ m := Nat.log2_self_le hm
  have h2 : m < 2 ^ (m.log2 + 1) := Nat.lt_log2_self
  unfold mg
  constructor
  · rw [pw_add, pw_nat]
    refine Rat.mul_le_mul_of_nonneg_right ?_ (Rat.le_of_lt (pw_pos e))
    exact_mod_cast h1
  · rw [show (m.log2 : Int) + e + 1 = ((m.log2 + 1 : Nat) : Int) + e by omega, pw_add, pw_nat]
    refine Rat.mul_lt_mul_of_pos_right ?_ (pw_pos e)
    exact_mod_cast h2
/-! reading and writing -/
abbrev D : Format := Ieee.double
theorem read_norm (s : Bool) {j kept : Nat} (h1 : 2 ^ 52 ≤ kept) (h2 : kept < 2 ^ 53) (hj : j < 2046) :
    D.read (D.word s (j * D.binade + kept)) = .number s kept (D.leastPlace + j) := by
  have hb : D.binade = 4503599627370496 := by decide
  have hw : D.signWeight = 9223372036854775808 := by decide
  have hi : D.infRung = 9218868437227405312 := by decide
  have hr : (j * D.binade + kept) % D.signWeight = j * D.binade + kept := by rw [hb, hw]; omega
  have hd : (j * D.binade + kept) / D.signWeight = 0 := by rw [hb, hw]; omega
  have key : (D.word s (j * D.binade + kept)) % D.signWeight = j * D.binade + kept ∧ ((D.word s (j * D.binade + kept)) / D.signWeight % 2 == 1) = s := by
    unfold Format.word
    cases s with
    | false => simp only [Bool.false_eq_true, if_false]; rw [hr, hd]; exact ⟨rfl, rfl⟩
    | true =>
      simp only [if_true]
      rw [hw, hb]
      constructor
      · omega
      · have : (9223372036854775808 + (j * 4503599627370496 + kept)) / 9223372036854775808 = 1 := by omega
        rw [this]; rfl
  unfold Format.read
  simp only [key.1, key.2]
  rw [if_neg (by rw [hb]; omega), if_pos (by rw [hb, hi]; omega)]
  have e1 : (j * D.binade + kept) % D.binade = kept - D.binade := by rw [hb]; omega
  have e2 : (j * D.binade + kept) / D.binade - 1 = j := by rw [hb]; omega
  rw [e1, e2]
  rw [hb, show 4503599627370496 + (kept - 4503599627370496) = kept by omega]
/-- What a word stands for, where it is a number. -/
def fval (w : Nat) : Rat := match D.read w with
  | .number s m e => if s then -mg m e else mg m e
  | _ => 0
def Fin (w : Nat) : Prop := ∃ s m e, D.read w = .number s m e
def sg (s : Bool) (x : Rat) : Rat := if s then -x else x
theorem fval_of {w : Nat} {s : Bool} {m : Nat} {e : Int} (h : D.read w = .number s m e) : fval w = sg s (mg m e) := by
  unfold fval
  rw [h]
  rfl
theorem cut_even {n drop : Nat} {neg : Bool} (h : drop ≤ n.log2 + 2) : ∃ low, low = n / 2 ^ drop ∧ (Toward.even.cut neg n drop = low ∧ 2 * (n % 2 ^ drop) ≤ 2 ^ drop ∨ Toward.even.cut neg n drop = low + 1 ∧ 2 ^ drop ≤ 2 * (n % 2 ^ drop)) := by
  refine ⟨_, rfl, ?_⟩
  unfold Toward.cut
  simp only [Nat.one_shiftLeft]
  rw [Nat.min_eq_left h]
  generalize hg : 2 ^ drop = g
  cases hc : (decide (g < 2 * (n % g)) || (g == 2 * (n % g) && n / g % 2 == 1)) with
  | false =>
    left
    simp only [Bool.or_eq_false_iff, decide_eq_false_iff_not] at hc
    exact ⟨rfl, by omega⟩
  | true =>
    right
    simp only [Bool.or_eq_true, decide_eq_true_eq, Bool.and_eq_true, beq_iff_eq] at hc
    exact ⟨rfl, by omega⟩
/-- **A number that is written is near to what it was.** -/
theorem write_near0 {s : Bool} {m : Nat} {e : Int} (hm : m ≠ 0) (h1 : -1022 ≤ m.log2 + e) (h2 : m.log2 + e ≤ 1000) :
    ∃ m' e', D.read (D.write (.number s m e)) = .number s m' e' ∧ m' ≠ 0 ∧ mg m' e' ≤ mg m e + pw (m.log2 + e - 53) ∧ mg m e ≤ mg m' e' + pw (m.log2 + e - 53) := by
  have hlp : D.leastPlace = -1074 := by decide
  have hfb : (D.fractionBits : Int) = 52 := by decide
  have hb : D.binade = 4503599627370496 := by decide
  have hi : D.infRung = 9218868437227405312 := by decide
  have hlast : max (e + m.log2 - D.fractionBits) D.leastPlace = m.log2 + e - 52 := by rw [hlp, hfb]; omega
  have h3 : 2 ^ m.log2 ≤ m := Nat.log2_self_le hm
  have h4 : m < 2 ^ (m.log2 + 1) := Nat.lt_log2_self
  -- what is kept
  have key : ∃ kept : Nat, Toward.even.cut s (m <<< (e - (m.log2 + e - 52)).toNat) ((m.log2 + e - 52) - e).toNat = kept ∧ 2 ^ 52 ≤ kept ∧ kept ≤ 2 ^ 53 ∧
      mg kept (m.log2 + e - 52) ≤ mg m e + pw (m.log2 + e - 53) ∧ mg m e ≤ mg kept (m.log2 + e - 52) + pw (m.log2 + e - 53) := by
    rcases Nat.lt_or_ge m.log2 52 with hl | hl
    · -- exact
      have e1 : (e - (m.log2 + e - 52)).toNat = 52 - m.log2 := by omega
      have e2 : ((m.log2 + e - 52) - e).toNat = 0 := by omega
      rw [e1, e2, Nat.shiftLeft_eq]
      obtain ⟨low, rfl, hc⟩ := cut_even (n := m * 2 ^ (52 - m.log2)) (drop := 0) (neg := s) (by omega)
      have hk : Toward.even.cut s (m * 2 ^ (52 - m.log2)) 0 = m * 2 ^ (52 - m.log2) := by
        rcases hc with ⟨h, _⟩ | ⟨_, h⟩
        · rw [h]; simp
        · simp [Nat.mod_one] at h
      refine ⟨_, hk, ?_, ?_, ?_, ?_⟩
      · calc 2 ^ 52 = 2 ^ m.log2 * 2 ^ (52 - m.log2) := by rw [← Nat.pow_add]; congr 1; omega
          _ ≤ m * 2 ^ (52 - m.log2) := Nat.mul_le_mul_right _ h3
      · calc m * 2 ^ (52 - m.log2) ≤ 2 ^ (m.log2 + 1) * 2 ^ (52 - m.log2) := Nat.mul_le_mul_right _ (Nat.le_of_lt h4)
          _ = 2 ^ 53 := by rw [← Nat.pow_add]; congr 1; omega
      · have : mg (m * 2 ^ (52 - m.log2)) (m.log2 + e - 52) = mg m e := by
          have := mg_shift m (52 - m.log2) e
          rw [← this]; congr 1; omega
        rw [this]
        have := pw_pos (m.log2 + e - 53)
        grind
      · have : mg (m * 2 ^ (52 - m.log2)) (m.log2 + e - 52) = mg m e := by
          have := mg_shift m (52 - m.log2) e
          rw [← this]; congr 1; omega
        rw [this]
        have := pw_pos (m.log2 + e - 53)
        grind
    · have e1 : (e - (m.log2 + e - 52)).toNat = 0 := by omega
      have e2 : ((m.log2 + e - 52) - e).toNat = m.log2 - 52 := by omega
      rw [e1, e2, Nat.shiftLeft_zero]
      obtain ⟨d, hd⟩ : ∃ d, m.log2 = d + 52 := ⟨m.log2 - 52, by omega⟩
      have hd' : m.log2 - 52 = d := by omega
      rw [hd']
      obtain ⟨low, hlow, hc⟩ := cut_even (n := m) (drop := d) (neg := s) (by omega)
      have hdm := Nat.div_add_mod m (2 ^ d)
      have hml := Nat.mod_lt m (show 0 < 2 ^ d from Nat.two_pow_pos d)
      rw [← hlow] at hdm
      have l1 : 2 ^ 52 ≤ low := by
        rw [hlow]
        refine (Nat.le_div_iff_mul_le (Nat.two_pow_pos d)).2 ?_
        rw [← Nat.pow_add, Nat.add_comm 52 d, ← hd]
        exact h3
      have l2 : low < 2 ^ 53 := by
        rw [hlow]
        refine (Nat.div_lt_iff_lt_mul (Nat.two_pow_pos d)).2 ?_
        rw [← Nat.pow_add]
        have : 53 + d = m.log2 + 1 := by omega
        rw [this]
        exact h4
      have hp : pw (m.log2 + e - 52) = ((2 ^ d : Nat) : Rat) * pw e := by
        rw [show (m.log2 : Int) + e - 52 = (d : Int) + e by omega, pw_add, pw_nat]
      have hq : 2 * pw (m.log2 + e - 53) = ((2 ^ d : Nat) : Rat) * pw e := by
        rw [← pw_succ, ← hp]; congr 1; omega
      have hme : (m : Rat) = ((2 ^ d : Nat) : Rat) * (low : Rat) + ((m % 2 ^ d : Nat) : Rat) := by
        rw [← Rat.natCast_mul, ← Rat.natCast_add, hdm]
      have hpe := pw_pos e
      have hpe0 := Rat.le_of_lt hpe
      have r0 : (0 : Rat) ≤ ((m % 2 ^ d : Nat) : Rat) := by exact_mod_cast Nat.zero_le _
      have rl : ((m % 2 ^ d : Nat) : Rat) ≤ ((2 ^ d : Nat) : Rat) := by exact_mod_cast Nat.le_of_lt hml
      rcases hc with ⟨hk, hr⟩ | ⟨hk, hr⟩
      · refine ⟨low, hk, l1, Nat.le_of_lt l2, ?_, ?_⟩
        · unfold mg
          rw [hp, hme]
          have := Rat.mul_nonneg r0 hpe0
          have := pw_pos (m.log2 + e - 53)
          grind
        · unfold mg
          rw [hp, hme]
          have hr' : 2 * ((m % 2 ^ d : Nat) : Rat) ≤ ((2 ^ d : Nat) : Rat) := by
            have : ((2 * (m % 2 ^ d) : Nat) : Rat) ≤ ((2 ^ d : Nat) : Rat) := by exact_mod_cast hr
            rwa [Rat.natCast_mul] at this
          have := Rat.mul_le_mul_of_nonneg_right hr' hpe0
          grind
      · refine ⟨low + 1, hk, by omega, by omega, ?_, ?_⟩
        · unfold mg
          rw [hp, hme, Rat.natCast_add]
          have hr' : ((2 ^ d : Nat) : Rat) ≤ 2 * ((m % 2 ^ d : Nat) : Rat) := by
            have : ((2 ^ d : Nat) : Rat) ≤ ((2 * (m % 2 ^ d) : Nat) : Rat) := by exact_mod_cast hr
            rwa [Rat.natCast_mul] at this
          have := Rat.mul_le_mul_of_nonneg_right hr' hpe0
          have h1 : ((1 : Nat) : Rat) = 1 := rfl
          rw [h1]
          grind
        · unfold mg
          rw [hp, hme, Rat.natCast_add]
          have := Rat.mul_le_mul_of_nonneg_right rl hpe0
          have := pw_pos (m.log2 + e - 53)
          have h1 : ((1 : Nat) : Rat) = 1 := rfl
          rw [h1]
          grind
  obtain ⟨kept, hk, k1, k2, k3, k4⟩ := key
  have hj : ((m.log2 : Int) + e - 52 - D.leastPlace).toNat = (m.log2 + e + 1022).toNat := by rw [hlp]; omega
  have hwr : D.write (.number s m e) = D.word s (((m.log2 : Int) + e + 1022).toNat * D.binade + kept) := by
    show D.nearest s m e = _
    unfold Format.nearest
    rw [if_neg hm]
    simp only [hlast]
    rw [hk, hj, Nat.min_eq_left]
    rw [hb, hi]
    omega
  rw [hwr]
  rcases Nat.lt_or_ge kept (2 ^ 53) with hl | hl
  · rw [read_norm s k1 hl (by omega)]
    refine ⟨kept, _, rfl, by omega, ?_, ?_⟩
    · rw [show D.leastPlace + (((m.log2 : Int) + e + 1022).toNat : Int) = m.log2 + e - 52 by rw [hlp]; omega]; exact k3
    · rw [show D.leastPlace + (((m.log2 : Int) + e + 1022).toNat : Int) = m.log2 + e - 52 by rw [hlp]; omega]; exact k4
  · obtain rfl : kept = 2 ^ 53 := by omega
    have hw2 : ((m.log2 : Int) + e + 1022).toNat * D.binade + 2 ^ 53 = (((m.log2 : Int) + e + 1022).toNat + 1) * D.binade + 2 ^ 52 := by rw [hb]; omega
    rw [hw2, read_norm s (by decide) (by decide) (by omega)]
    have hv : mg (2 ^ 52) (m.log2 + e - 51) = mg (2 ^ 53) (m.log2 + e - 52) := by
      have := mg_shift (2 ^ 52) 1 (m.log2 + e - 51)
      rw [← this]
      congr 1
      omega
    refine ⟨2 ^ 52, _, rfl, by decide, ?_, ?_⟩
    · rw [show D.leastPlace + ((((m.log2 : Int) + e + 1022).toNat + 1 : Nat) : Int) = m.log2 + e - 51 by rw [hlp]; omega, hv]; exact k3
    · rw [show D.leastPlace + ((((m.log2 : Int) + e + 1022).toNat + 1 : Nat) : Int) = m.log2 + e - 51 by rw [hlp]; omega, hv]; exact k4
theorem write_near {s : Bool} {m : Nat} {e : Int} (hm : m ≠ 0) (h1 : -1000 ≤ m.log2 + e) (h2 : m.log2 + e ≤ 1000) :
    ∃ m' e', D.read (D.write (.number s m e)) = .number s m' e' ∧ m' ≠ 0 ∧ mg m' e' ≤ mg m e + pw (m.log2 + e - 53) ∧ mg m e ≤ mg m' e' + pw (m.log2 + e - 53) := write_near0 hm (by omega) h2
end Go.Sx

/- Operations on floating numbers of 64 bits: what they give is a number, of such a sign, not too great and not too small. -/
namespace Go.Sx
open Go Ieee
set_option linter.unusedVariables false
set_option linter.unusedSimpArgs false

theorem read_sub (s : Bool) {kept : Nat} (h : kept < 2 ^ 53) : D.read (D.word s kept) = .number s kept D.leastPlace := by
  have hb : D.binade = 4503599627370496 := by decide
  have hw : D.signWeight = 9223372036854775808 := by decide
  have hi : D.infRung = 9218868437227405312 := by decide
  rcases Nat.lt_or_ge kept (2 ^ 52) with h2 | h2
  · have key : (D.word s kept) % D.signWeight = kept ∧ ((D.word s kept) / D.signWeight % 2 == 1) = s := by
      unfold Format.word
      cases s with
      | false =>
        simp only [Bool.false_eq_true, if_false]
        rw [hw]
        constructor
        · omega
        · have : kept / 9223372036854775808 = 0 := by omega
          rw [this]; rfl
      | true =>
        simp only [if_true]
        rw [hw]
        constructor
        · omega
        · have : (9223372036854775808 + kept) / 9223372036854775808 = 1 := by omega
          rw [this]; rfl
    unfold Format.read
    simp only [key.1, key.2]
    rw [if_pos (by rw [hb]; omega)]
  · have := read_norm s (j := 0) h2 h (by omega)
    simpa using this
theorem mg_zero (e : Int) : mg 0 e = 0 := by
  unfold mg
  rw [show ((0 : Nat) : Rat) = 0 from rfl, Rat.zero_mul]
theorem mg_pos {m : Nat} (hm : m ≠ 0) (e : Int) : 0 < mg m e := by
  have := (mg_log hm e).1
  have := pw_pos (m.log2 + e)
  grind
theorem mg_mono {m n : Nat} (h : m ≤ n) (e : Int) : mg m e ≤ mg n e := by
  unfold mg
  refine Rat.mul_le_mul_of_nonneg_right ?_ (Rat.le_of_lt (pw_pos e))
  exact_mod_cast h
theorem mg_pow (k : Nat) (e : Int) : mg (2 ^ k) e = pw (k + e) := by
  unfold mg
  rw [pw_add, pw_nat]
/-- A number below what is normal. -/
theorem write_tiny {s : Bool} {m : Nat} {e : Int} (hm : m ≠ 0) (h : m.log2 + e < -1022) : ∃ m' e', D.read (D.write (.number s m e)) = .number s m' e' ∧ mg m' e' ≤ pw (-1021) ∧ (-1074 ≤ e → m' ≠ 0) := by
  have hlp : D.leastPlace = -1074 := by decide
  have hfb : (D.fractionBits : Int) = 52 := by decide
  have hb : D.binade = 4503599627370496 := by decide
  have hi : D.infRung = 9218868437227405312 := by decide
  have hlast : max (e + m.log2 - D.fractionBits) D.leastPlace = -1074 := by rw [hlp, hfb]; omega
  have h3 : 2 ^ m.log2 ≤ m := Nat.log2_self_le hm
  have h4 : m < 2 ^ (m.log2 + 1) := Nat.lt_log2_self
  have key : ∃ kept : Nat, Toward.even.cut s (m <<< (e - (-1074)).toNat) ((-1074) - e).toNat = kept ∧ kept ≤ 2 ^ 52 ∧ (-1074 ≤ e → kept ≠ 0) := by
    rcases Int.lt_or_le e (-1074) with hl | hl
    · have e1 : (e - (-1074)).toNat = 0 := by omega
      rw [e1, Nat.shiftLeft_zero]
      rcases Nat.lt_or_ge (m.log2 + 2) ((-1074) - e).toNat with hd | hd
      · refine ⟨0, ?_, by omega, fun h => by omega⟩
        unfold Toward.cut
        simp only [Nat.one_shiftLeft]
        rw [Nat.min_eq_right (Nat.le_of_lt hd)]
        have hp : 2 ^ (m.log2 + 2) = 2 * 2 ^ (m.log2 + 1) := by rw [Nat.pow_succ, Nat.mul_comm]
        generalize hg : 2 ^ (m.log2 + 1) = g at *
        rw [hp]
        have q1 : m / (2 * g) = 0 := Nat.div_eq_of_lt (by omega)
        have q2 : m % (2 * g) = m := Nat.mod_eq_of_lt (by omega)
        rw [q1, q2]
        have c1 : decide (2 * g < 2 * m) = false := by simp; omega
        have c2 : (2 * g == 2 * m) = false := by simp; omega
        rw [c1, c2]
        rfl
      · obtain ⟨low, hlow, hc⟩ := cut_even (n := m) (drop := ((-1074) - e).toNat) (neg := s) hd
        generalize hdd : ((-1074) - e).toNat = d at *
        have l2 : low + 1 ≤ 2 ^ 52 := by
          have : low < 2 ^ 52 := by
            rw [hlow]
            refine (Nat.div_lt_iff_lt_mul (Nat.two_pow_pos d)).2 ?_
            rw [← Nat.pow_add]
            refine Nat.lt_of_lt_of_le h4 (Nat.pow_le_pow_right (by omega) (by omega))
          omega
        rcases hc with ⟨hk, _⟩ | ⟨hk, _⟩
        · exact ⟨_, hk, by omega, fun h => by omega⟩
        · exact ⟨_, hk, l2, fun h => by omega⟩
    · have e2 : ((-1074) - e).toNat = 0 := by omega
      rw [e2, Nat.shiftLeft_eq]
      obtain ⟨low, rfl, hc⟩ := cut_even (n := m * 2 ^ (e - (-1074)).toNat) (drop := 0) (neg := s) (by omega)
      refine ⟨m * 2 ^ (e - (-1074)).toNat, ?_, ?_, fun _ h => ?_⟩
      · rcases hc with ⟨h, _⟩ | ⟨_, h⟩
        · rw [h]; simp
        · simp [Nat.mod_one] at h
      · refine Nat.le_of_lt (Nat.lt_of_lt_of_le (Nat.mul_lt_mul_of_pos_right h4 (Nat.two_pow_pos _)) ?_)
        rw [← Nat.pow_add]
        exact Nat.pow_le_pow_right (by omega) (by omega)
      · rcases Nat.mul_eq_zero.1 h with h | h
        · exact hm h
        · exact absurd h (Nat.pos_iff_ne_zero.1 (Nat.two_pow_pos _))
  obtain ⟨kept, hk, k2, k3⟩ := key
  have hwr : D.write (.number s m e) = D.word s kept := by
    show D.nearest s m e = _
    unfold Format.nearest
    rw [if_neg hm]
    simp only [hlast]
    rw [hk, hlp, hb, hi]
    have z : ((-1074 : Int) - (-1074)).toNat = 0 := by decide
    rw [z, Nat.zero_mul, Nat.zero_add, Nat.min_eq_left (by omega)]
  rw [hwr, read_sub s (by omega)]
  refine ⟨kept, _, rfl, ?_, k3⟩
  have h1 := mg_mono k2 D.leastPlace
  rw [mg_pow, hlp] at h1
  rw [hlp]
  exact Rat.le_trans h1 (pw_le (by omega))
/-- **What is written of a number that is not too great.** -/
theorem write_bd {s : Bool} {m : Nat} {e k : Int} (hk : -1000 ≤ k) (hk2 : k ≤ 999) (h : mg m e ≤ pw k) :
    ∃ m' e', D.read (D.write (.number s m e)) = .number s m' e' ∧ mg m' e' ≤ pw (k + 1) ∧ ∀ j, -1000 ≤ j → pw j ≤ mg m e → pw (j - 1) ≤ mg m' e' := by
  by_cases hm : m = 0
  · subst hm
    have hw : D.write (.number s 0 e) = D.word s 0 := rfl
    rw [hw, read_sub s (by decide)]
    refine ⟨0, _, rfl, ?_, fun j _ hj => ?_⟩
    · rw [mg_zero]; exact Rat.le_of_lt (pw_pos _)
    · rw [mg_zero] at hj
      have := pw_pos j
      grind
  · obtain ⟨l1, l2⟩ := mg_log hm e
    have hL : (m.log2 : Int) + e ≤ k := by
      have h5 : ¬ k < m.log2 + e := fun hh => by
        have h6 : pw (k + 1) ≤ pw (m.log2 + e) := pw_le (by omega)
        rw [pw_succ] at h6
        have := pw_pos k
        grind
      omega
    rcases Int.lt_or_le (m.log2 + e) (-1000) with hl | hl
    · rcases Int.lt_or_le (m.log2 + e) (-1022) with hl2 | hl2
      · obtain ⟨m', e', r, b, _⟩ := write_tiny (s := s) hm hl2
        refine ⟨m', e', r, Rat.le_trans b (pw_le (by omega)), fun j hj hj2 => ?_⟩
        exfalso
        have : pw (m.log2 + e + 1) ≤ pw j := pw_le (by omega)
        grind
      · obtain ⟨m', e', r, hm', b1, b2⟩ := write_near0 (s := s) hm hl2 (by omega)
        refine ⟨m', e', r, ?_, fun j hj hj2 => ?_⟩
        · have h7 : pw (m.log2 + e - 53) ≤ pw (m.log2 + e) := pw_le (by omega)
          have h8 : pw (m.log2 + e) ≤ pw k := pw_le hL
          rw [pw_succ]
          grind
        · exfalso
          have : pw (m.log2 + e + 1) ≤ pw j := pw_le (by omega)
          grind
    · obtain ⟨m', e', r, hm', b1, b2⟩ := write_near (s := s) hm hl (by omega)
      have h7 : 2 * pw (m.log2 + e - 53) ≤ pw (m.log2 + e) := by rw [← pw_succ]; exact pw_le (by omega)
      refine ⟨m', e', r, ?_, fun j hj hj2 => ?_⟩
      · have h8 : pw (m.log2 + e) ≤ pw k := pw_le hL
        rw [pw_succ]
        have := pw_pos (m.log2 + e - 53)
        grind
      · have : pw j = 2 * pw (j - 1) := by rw [← pw_succ]; congr 1; omega
        grind
/-! what words stand for -/
/-- A word that stands for a number of such a sign, not greater than 2 ^ k. -/
def Nm (w : Nat) (s : Bool) (m : Nat) (e : Int) : Prop := D.read w = .number s m e
def Bd (k : Int) (w : Nat) : Prop := ∃ s m e, D.read w = .number s m e ∧ mg m e ≤ pw k
theorem Bd.mono {k l : Int} {w : Nat} (h : Bd k w) (hl : k ≤ l) : Bd l w := by
  obtain ⟨s, m, e, r, b⟩ := h
  exact ⟨s, m, e, r, Rat.le_trans b (pw_le hl)⟩
theorem read_small {w : Nat} {s : Bool} {m : Nat} {e : Int} (h : D.read w = .number s m e) : m < 2 ^ 53 := by
  have hb : D.binade = 4503599627370496 := by decide
  unfold Format.read at h
  simp only at h
  split at h
  · rename_i hc
    cases h
    rw [hb] at hc
    omega
  · split at h
    · cases h
      have := Nat.mod_lt (w % D.signWeight) (show 0 < D.binade by rw [hb]; omega)
      rw [hb] at this ⊢
      omega
    · split at h <;> cases h
theorem mg_mul (m n : Nat) (i j : Int) : mg (m * n) (i + j) = mg m i * mg n j := by
  unfold mg
  rw [pw_add, Rat.natCast_mul]
  grind
/-- A product. -/
theorem mul_bd {a b : Int} {x y : Nat} (hx : Bd a x) (hy : Bd b y) (h1 : -1000 ≤ a + b) (h2 : a + b ≤ 999) : ∃ w, floatBits .mul .f64 x y = some w ∧ Bd (a + b + 1) w := by
  obtain ⟨s, m, i, r, bx⟩ := hx
  obtain ⟨t, n, j, q, by'⟩ := hy
  have hm : mg (m * n) (i + j) ≤ pw (a + b) := by
    rw [mg_mul, pw_add]
    have h1 := Rat.mul_le_mul_of_nonneg_right bx (mg_nn n j)
    have h2 := Rat.mul_le_mul_of_nonneg_left by' (Rat.le_of_lt (pw_pos a))
    exact Rat.le_trans h1 h2
  obtain ⟨m', e', r', b', _⟩ := write_bd (s := s ^^ t) h1 h2 hm
  refine ⟨_, ?_, _, m', e', r', b'⟩
  show ((D.read x).product (D.read y)).map D.write = _
  rw [r, q]
  rfl
/-- What is shifted. -/
theorem mg_shl (m : Nat) {i base : Int} (h : base ≤ i) : mg (m <<< (i - base).toNat) base = mg m i := by
  rw [Nat.shiftLeft_eq]
  have := mg_shift m (i - base).toNat i
  rw [← this]
  congr 1
  omega
theorem mg_add (m n : Nat) (e : Int) : mg (m + n) e = mg m e + mg n e := by
  unfold mg
  rw [Rat.natCast_add, Rat.add_mul]
theorem fsum_facts {s t : Bool} {m n : Nat} {i j : Int} : ∃ u c base, (Datum.number s m i).sum (.number t n j) = some (.number u c base) ∧ mg c base ≤ mg m i + mg n j ∧ (s = t → u = s ∧ mg c base = mg m i + mg n j) := by
  have h1 : min i j ≤ i := Int.min_le_left _ _
  have h2 : min i j ≤ j := Int.min_le_right _ _
  refine ⟨_, _, min i j, rfl, ?_, ?_⟩
  · have hn : (signed s m (i - min i j).toNat + signed t n (j - min i j).toNat).natAbs ≤ m <<< (i - min i j).toNat + n <<< (j - min i j).toNat := by
      unfold signed
      generalize m <<< (i - min i j).toNat = A
      generalize n <<< (j - min i j).toNat = B
      cases s <;> cases t <;> simp only [Bool.false_eq_true, if_false, if_true] <;> omega
    refine Rat.le_trans (mg_mono hn _) ?_
    rw [mg_add, mg_shl m h1, mg_shl n h2]
    exact Rat.le_refl
  · rintro rfl
    have e1 : (signed s m (i - min i j).toNat + signed s n (j - min i j).toNat).natAbs = m <<< (i - min i j).toNat + n <<< (j - min i j).toNat ∧
        (if (signed s m (i - min i j).toNat + signed s n (j - min i j).toNat) = 0 then s && s else decide ((signed s m (i - min i j).toNat + signed s n (j - min i j).toNat) < 0)) = s := by
      unfold signed
      generalize m <<< (i - min i j).toNat = A
      generalize n <<< (j - min i j).toNat = B
      cases s
      · simp only [Bool.false_eq_true, if_false, Bool.and_self]
        refine ⟨by omega, ?_⟩
        split
        · rfl
        · rw [decide_eq_false]; omega
      · simp only [if_true, Bool.and_self]
        refine ⟨by omega, ?_⟩
        split
        · rfl
        · rw [decide_eq_true]; omega
    refine ⟨?_, ?_⟩
    · have := e1.2
      simpa using this
    · rw [e1.1, mg_add, mg_shl m h1, mg_shl n h2]
/-- A sum. -/
theorem add_bd {a : Int} {x y : Nat} (hx : Bd a x) (hy : Bd a y) (h1 : -1000 ≤ a) (h2 : a ≤ 990) : ∃ w, floatBits .add .f64 x y = some w ∧ Bd (a + 2) w := by
  obtain ⟨s, m, i, r, bx⟩ := hx
  obtain ⟨t, n, j, q, by'⟩ := hy
  obtain ⟨u, c, base, e, b, _⟩ := fsum_facts (s := s) (t := t) (m := m) (n := n) (i := i) (j := j)
  have hm : mg c base ≤ pw (a + 1) := by rw [pw_succ]; grind
  obtain ⟨m', e', r', b', _⟩ := write_bd (s := u) (by omega) (by omega) hm
  refine ⟨_, ?_, u, m', e', r', by rw [show a + 2 = a + 1 + 1 by omega]; exact b'⟩
  show ((D.read x).sum (D.read y)).map D.write = _
  rw [r, q, e]
  rfl
theorem opp_read {y : Nat} {t : Bool} {n : Nat} {j : Int} (q : D.read y = .number t n j) : (D.read y).opposite = .number (!t) n j := by rw [q]; rfl
theorem sub_bd {a : Int} {x y : Nat} (hx : Bd a x) (hy : Bd a y) (h1 : -1000 ≤ a) (h2 : a ≤ 990) : ∃ w, floatBits .sub .f64 x y = some w ∧ Bd (a + 2) w := by
  obtain ⟨s, m, i, r, bx⟩ := hx
  obtain ⟨t, n, j, q, by'⟩ := hy
  obtain ⟨u, c, base, e, b, _⟩ := fsum_facts (s := s) (t := !t) (m := m) (n := n) (i := i) (j := j)
  have hm : mg c base ≤ pw (a + 1) := by rw [pw_succ]; grind
  obtain ⟨m', e', r', b', _⟩ := write_bd (s := u) (by omega) (by omega) hm
  refine ⟨_, ?_, u, m', e', r', by rw [show a + 2 = a + 1 + 1 by omega]; exact b'⟩
  show ((D.read x).sum (D.read y).opposite).map D.write = _
  rw [r, opp_read q, e]
  rfl
/-- A quotient. -/
theorem quot_facts {s t : Bool} {m n : Nat} {i j : Int} (hm : m < 2 ^ 53) (hn : n ≠ 0) : ∃ c e, (Datum.number s m i).quotient 54 (.number t n j) = some (.number (s ^^ t) c e) ∧ mg c e * mg n j ≤ 2 * mg m i := by
  have e0 : (Datum.number s m i).quotient 54 (.number t n j) = some (.number (s ^^ t) (2 * ((m <<< (54 + n.log2 - m.log2)) / n) + ((m <<< (54 + n.log2 - m.log2)) % n != 0).toNat) (i - j - ((54 + n.log2 - m.log2 : Nat) : Int) - 1)) := by
    show (if n = 0 then _ else _) = _
    rw [if_neg hn]
  refine ⟨_, _, e0, ?_⟩
  by_cases h0 : m = 0
  · subst h0
    have z : (2 * ((0 <<< (54 + n.log2 - Nat.log2 0)) / n) + ((0 <<< (54 + n.log2 - Nat.log2 0)) % n != 0).toNat) = 0 := by simp
    rw [z, mg_zero, mg_zero]
    grind
  have hlm : m.log2 < 53 := (Nat.log2_lt h0).2 hm
  obtain ⟨more, hmore⟩ : ∃ more, 54 + n.log2 - m.log2 = more := ⟨_, rfl⟩
  rw [hmore]
  have hdm := Nat.div_add_mod (m <<< more) n
  have hb : ((m <<< more) % n != 0).toNat ≤ 1 := by cases (m <<< more) % n != 0 <;> decide
  have hsh : m <<< more = m * 2 ^ more := Nat.shiftLeft_eq _ _
  generalize hq : (m <<< more) / n = q at *
  generalize hr : (m <<< more) % n = r at *
  generalize hc : (r != 0).toNat = c at *
  -- (2 q + c) n <= 2 m 2^more + n
  have hle : (2 * q + c) * n ≤ 2 * (m * 2 ^ more) + n := by
    have h1 : q * n ≤ m * 2 ^ more := by
      have : n * q = q * n := Nat.mul_comm _ _
      omega
    have h2 : c * n ≤ 1 * n := Nat.mul_le_mul_right n hb
    rw [Nat.add_mul, Nat.mul_assoc]
    omega
  have hn2 : n ≤ m * 2 ^ more := by
    have h1 : n < 2 ^ (n.log2 + 1) := Nat.lt_log2_self
    have h2 : 2 ^ m.log2 ≤ m := Nat.log2_self_le h0
    have h3 : 2 ^ m.log2 * 2 ^ more ≤ m * 2 ^ more := Nat.mul_le_mul_right _ h2
    rw [← Nat.pow_add] at h3
    have h4 : 2 ^ (n.log2 + 1) ≤ 2 ^ (m.log2 + more) := Nat.pow_le_pow_right (by omega) (by omega)
    omega
  have hle2 : (2 * q + c) * n ≤ 4 * (m * 2 ^ more) := by omega
  have e1 : mg (2 * q + c) (i - j - (more : Int) - 1) * mg n j = mg ((2 * q + c) * n) (i - (more : Int) - 1) := by
    rw [← mg_mul]
    congr 1
    omega
  rw [e1]
  refine Rat.le_trans (mg_mono hle2 _) ?_
  have e2 : mg (4 * (m * 2 ^ more)) (i - (more : Int) - 1) = 2 * mg m i := by
    unfold mg
    rw [Rat.natCast_mul, Rat.natCast_mul, ← pw_nat]
    have : pw i = 2 * (pw (more : Int) * pw (i - (more : Int) - 1)) := by rw [← pw_add, ← pw_succ]; congr 1; omega
    rw [this]
    have h4 : ((4 : Nat) : Rat) = 4 := rfl
    rw [h4]
    grind
  rw [e2]
  exact Rat.le_refl
theorem div_bd {a b : Int} {x y : Nat} {t : Bool} {n : Nat} {j : Int} (hx : Bd a x) (hy : D.read y = .number t n j) (hb : pw b ≤ mg n j) (h1 : -1000 ≤ a - b) (h2 : a - b ≤ 990) : ∃ w, floatBits .quo .f64 x y = some w ∧ Bd (a - b + 2) w := by
  obtain ⟨s, m, i, r, bx⟩ := hx
  have hn : n ≠ 0 := fun h => by
    subst h
    rw [mg_zero] at hb
    have := pw_pos b
    grind
  obtain ⟨c, e, q, l⟩ := quot_facts (s := s) (t := t) (i := i) (j := j) (read_small r) hn
  have hm : mg c e ≤ pw (a - b + 1) := by
    have h3 : mg c e * pw b ≤ mg c e * mg n j := Rat.mul_le_mul_of_nonneg_left hb (mg_nn c e)
    have h4 : mg c e * pw b ≤ pw (a - b + 1) * pw b := by
      rw [← pw_add, show a - b + 1 + b = a + 1 by omega, pw_succ]
      grind
    exact Rat.le_of_mul_le_mul_right h4 (pw_pos b)
  obtain ⟨m', e', r', b', _⟩ := write_bd (s := s ^^ t) (by omega) (by omega) hm
  refine ⟨_, ?_, _, m', e', r', by rw [show a - b + 2 = a - b + 1 + 1 by omega]; exact b'⟩
  show ((D.read x).quotient 54 (D.read y)).map D.write = _
  rw [r, hy, q]
  rfl
end Go.Sx

/- Products and quotients of complex floating numbers that are not too great: numbers, and only one answer. -/
namespace Go.Sx
open Go Ieee
set_option linter.unusedVariables false
set_option linter.unusedSimpArgs false

theorem cmul_bd {k l : Int} {a b c d : Nat} (ha : Bd k a) (hb : Bd k b) (hc : Bd l c) (hd : Bd l d) (h1 : -900 ≤ k + l) (h2 : k + l ≤ 900) : ∃ re im, cMulBits a b c d = some (re, im) ∧ Bd (k + l + 3) re ∧ Bd (k + l + 3) im := by
  obtain ⟨ac, e1, b1⟩ := mul_bd ha hc (by omega) (by omega)
  obtain ⟨bd, e2, b2⟩ := mul_bd hb hd (by omega) (by omega)
  obtain ⟨re, e3, b3⟩ := sub_bd b1 b2 (by omega) (by omega)
  obtain ⟨ad, e4, b4⟩ := mul_bd ha hd (by omega) (by omega)
  obtain ⟨bc, e5, b5⟩ := mul_bd hb hc (by omega) (by omega)
  obtain ⟨im, e6, b6⟩ := add_bd b4 b5 (by omega) (by omega)
  refine ⟨re, im, ?_, b3.mono (by omega), b6.mono (by omega)⟩
  unfold cMulBits
  rw [e1, e2, Option.bind_some, Option.bind_some, e3, Option.bind_some, e4, e5, Option.bind_some, Option.bind_some, e6]
  rfl
/-! which of two is greater -/
theorem abs_read {x : Nat} {s : Bool} {m : Nat} {e : Int} (h : D.read x = .number s m e) : D.read (Op.Complex.abs x) = .number false m e := by
  have hw : D.signWeight = 9223372036854775808 := by decide
  have key : (Op.Complex.abs x) % D.signWeight = x % D.signWeight ∧ ((Op.Complex.abs x) / D.signWeight % 2 == 1) = false := by
    unfold Op.Complex.abs
    rw [hw]
    have h63 : (2 : Nat) ^ 63 = 9223372036854775808 := by decide
    rw [h63]
    constructor
    · omega
    · have : x % 9223372036854775808 / 9223372036854775808 = 0 := by omega
      rw [this]; rfl
  unfold Format.read at h ⊢
  simp only at h ⊢
  rw [key.1, key.2]
  split at h
  · rename_i hc
    rw [if_pos hc]
    cases h; rfl
  · rename_i hc
    rw [if_neg hc]
    split at h
    · rename_i hc2
      rw [if_pos hc2]
      cases h; rfl
    · split at h <;> cases h
theorem order_facts {m n : Nat} {i j : Int} : (Datum.number false m i).order (.number false n j) = some (compare (m <<< (i - min i j).toNat : Int) (n <<< (j - min i j).toNat : Int)) := rfl
theorem absGe_facts {c d : Nat} {s t : Bool} {m n : Nat} {i j : Int} (hc : D.read c = .number s m i) (hd : D.read d = .number t n j) : (absGe c d = true → mg n j ≤ mg m i) ∧ (absGe c d = false → mg m i ≤ mg n j) := by
  have h1 : min i j ≤ i := Int.min_le_left _ _
  have h2 : min i j ≤ j := Int.min_le_right _ _
  have e : D.order (Op.Complex.abs c) (Op.Complex.abs d) = some (compare ((m <<< (i - min i j).toNat : Nat) : Int) ((n <<< (j - min i j).toNat : Nat) : Int)) := by
    show (D.read _).order (D.read _) = _
    rw [abs_read hc, abs_read hd]
    rfl
  have g : absGe c d = (D.order (Op.Complex.abs c) (Op.Complex.abs d) == some .gt || D.order (Op.Complex.abs c) (Op.Complex.abs d) == some .eq) := rfl
  rw [g, e]
  have m1 := mg_shl m h1
  have m2 := mg_shl n h2
  generalize m <<< (i - min i j).toNat = A at *
  generalize n <<< (j - min i j).toNat = B at *
  constructor
  · intro h
    have hle : B ≤ A := by
      rcases Nat.lt_or_ge A B with hlt | hge
      · have : compare (A : Int) (B : Int) = .lt := by rw [Int.compare_eq_lt]; omega
        rw [this] at h
        cases h
      · exact hge
    rw [← m1, ← m2]
    exact mg_mono hle _
  · intro h
    have hle : A ≤ B := by
      rcases Nat.lt_or_ge B A with hlt | hge
      · have : compare (A : Int) (B : Int) = .gt := by rw [Int.compare_eq_gt]; omega
        rw [this] at h
        cases h
      · exact hge
    rw [← m1, ← m2]
    exact mg_mono hle _
end Go.Sx

/- Quotients of complex floating numbers. -/
namespace Go.Sx
open Go Ieee
set_option linter.unusedVariables false
set_option linter.unusedSimpArgs false

theorem mul_nm {a b : Int} {x y : Nat} {s t : Bool} {m n : Nat} {i j : Int} (hx : D.read x = .number s m i) (hy : D.read y = .number t n j) (bx : mg m i ≤ pw a) (by' : mg n j ≤ pw b) (h1 : -1000 ≤ a + b) (h2 : a + b ≤ 999) :
    ∃ w m' e', floatBits .mul .f64 x y = some w ∧ D.read w = .number (s ^^ t) m' e' ∧ mg m' e' ≤ pw (a + b + 1) := by
  have hm : mg (m * n) (i + j) ≤ pw (a + b) := by
    rw [mg_mul, pw_add]
    have h1 := Rat.mul_le_mul_of_nonneg_right bx (mg_nn n j)
    have h2 := Rat.mul_le_mul_of_nonneg_left by' (Rat.le_of_lt (pw_pos a))
    exact Rat.le_trans h1 h2
  obtain ⟨m', e', r', b', _⟩ := write_bd (s := s ^^ t) h1 h2 hm
  refine ⟨_, m', e', ?_, r', b'⟩
  show ((D.read x).product (D.read y)).map D.write = _
  rw [hx, hy]
  rfl
theorem read_place {w : Nat} {s : Bool} {m : Nat} {e : Int} (h : D.read w = .number s m e) : -1074 ≤ e := by
  have hlp : D.leastPlace = -1074 := by decide
  unfold Format.read at h
  simp only at h
  split at h
  · cases h
    rw [hlp]; omega
  · split at h
    · cases h
      rw [hlp]; omega
    · split at h <;> cases h
/-- A word of a number that is not nothing. -/
theorem write_nz {s : Bool} {m : Nat} {e k : Int} (hm : m ≠ 0) (he : -1074 ≤ e) (hk2 : k ≤ 999) (h : mg m e ≤ pw k) : ∃ m' e', D.read (D.write (.number s m e)) = .number s m' e' ∧ m' ≠ 0 := by
  obtain ⟨l1, l2⟩ := mg_log hm e
  have hL : (m.log2 : Int) + e ≤ k := by
    have h5 : ¬ k < m.log2 + e := fun hh => by
      have h6 : pw (k + 1) ≤ pw (m.log2 + e) := pw_le (by omega)
      rw [pw_succ] at h6
      have := pw_pos k
      grind
    omega
  rcases Int.lt_or_le (m.log2 + e) (-1022) with hl2 | hl2
  · obtain ⟨m', e', r, _, nz⟩ := write_tiny (s := s) hm hl2
    exact ⟨m', e', r, nz he⟩
  · obtain ⟨m', e', r, hm', _, _⟩ := write_near0 (s := s) hm hl2 (by omega)
    exact ⟨m', e', r, hm'⟩
/-- A sum of two of the same sign. -/
theorem add_nm {a : Int} {x y : Nat} {s : Bool} {m n : Nat} {i j : Int} (hx : D.read x = .number s m i) (hy : D.read y = .number s n j) (bx : mg m i ≤ pw a) (by' : mg n j ≤ pw a) (h1 : -1000 ≤ a) (h2 : a ≤ 990) (hm : m ≠ 0) :
    ∃ w m' e', floatBits .add .f64 x y = some w ∧ D.read w = .number s m' e' ∧ mg m' e' ≤ pw (a + 2) ∧ m' ≠ 0 ∧ ∀ b, -1000 ≤ b → pw b ≤ mg m i → pw (b - 1) ≤ mg m' e' := by
  have h3 : min i j ≤ i := Int.min_le_left _ _
  have h4 : min i j ≤ j := Int.min_le_right _ _
  obtain ⟨u, c, base, e, _, h⟩ := fsum_facts (s := s) (t := s) (m := m) (n := n) (i := i) (j := j)
  obtain ⟨rfl, hv⟩ := h rfl
  have hb : mg c base ≤ pw (a + 1) := by rw [hv, pw_succ]; grind
  have hbase : base = min i j := by
    have e' : (Datum.number u m i).sum (.number u n j) = some (.number (if (signed u m (i - min i j).toNat + signed u n (j - min i j).toNat) = 0 then u && u else decide ((signed u m (i - min i j).toNat + signed u n (j - min i j).toNat) < 0)) (signed u m (i - min i j).toNat + signed u n (j - min i j).toNat).natAbs (min i j)) := rfl
    rw [e'] at e
    simp only [Option.some.injEq, Datum.number.injEq] at e
    exact e.2.2.symm
  have hc : c ≠ 0 := fun h => by
    subst h
    rw [mg_zero] at hv
    have := mg_pos hm i
    have := mg_nn n j
    grind
  have hpl : -1074 ≤ base := by
    have := read_place hx
    have := read_place hy
    rw [hbase]
    omega
  obtain ⟨m', e', r', b', lo⟩ := write_bd (s := u) (by omega) (by omega) hb
  obtain ⟨m2, e2, r2, nz⟩ := write_nz (s := u) hc hpl (by omega) hb
  rw [r'] at r2
  cases r2
  refine ⟨_, m', e', ?_, r', by rw [show a + 2 = a + 1 + 1 by omega]; exact b', nz, fun b hb1 hb2 => lo b hb1 ?_⟩
  · show ((D.read x).sum (D.read y)).map D.write = _
    rw [hx, hy, e]
    rfl
  · rw [hv]
    have := mg_nn n j
    grind
/-- A ratio that is not greater than one, about. -/
theorem ratio_nm {x y : Nat} {s t : Bool} {m n : Nat} {i j : Int} (hx : D.read x = .number s m i) (hy : D.read y = .number t n j) (hn : n ≠ 0) (hle : mg m i ≤ mg n j) :
    ∃ w m' e', floatBits .quo .f64 x y = some w ∧ D.read w = .number (s ^^ t) m' e' ∧ mg m' e' ≤ pw 2 := by
  obtain ⟨c, e, q, l⟩ := quot_facts (s := s) (t := t) (i := i) (j := j) (read_small hx) hn
  have hp := mg_pos hn j
  have hm : mg c e ≤ pw 1 := by
    have h4 : mg c e * mg n j ≤ pw 1 * mg n j := by
      rw [pw_one]
      grind
    exact Rat.le_of_mul_le_mul_right h4 hp
  obtain ⟨m', e', r', b', _⟩ := write_bd (s := s ^^ t) (by omega) (by omega) hm
  refine ⟨_, m', e', ?_, r', b'⟩
  show ((D.read x).quotient 54 (D.read y)).map D.write = _
  rw [hx, hy, q]
  rfl
theorem h2'' {a : Int} {x y w : Nat} (h : floatBits .add .f64 x y = some w) (hx : Bd a x) (hy : Bd a y) (h1 : -1000 ≤ a) (h2 : a ≤ 990) : Bd (a + 2) w := by
  obtain ⟨w', e, b⟩ := add_bd hx hy h1 h2
  rw [h] at e
  cases e
  exact b
theorem h4'' {a : Int} {x y w : Nat} (h : floatBits .sub .f64 x y = some w) (hx : Bd a x) (hy : Bd a y) (h1 : -1000 ≤ a) (h2 : a ≤ 990) : Bd (a + 2) w := by
  obtain ⟨w', e, b⟩ := sub_bd hx hy h1 h2
  rw [h] at e
  cases e
  exact b
theorem read_rung (s : Bool) {r : Nat} (h : r ≤ D.infRung) : (D.read (D.word s r)).isNaN = false := by
  have hb : D.binade = 4503599627370496 := by decide
  have hw : D.signWeight = 9223372036854775808 := by decide
  have hi : D.infRung = 9218868437227405312 := by decide
  rw [hi] at h
  have key : (D.word s r) % D.signWeight = r := by
    unfold Format.word
    rw [hw]
    cases s
    · simp only [Bool.false_eq_true, if_false]; omega
    · simp only [if_true]; omega
  unfold Format.read
  simp only [key]
  split
  · rfl
  · split
    · rfl
    · split
      · rfl
      · rename_i h1 h2
        rw [hi] at h1 h2
        omega
theorem write_notNaN (s : Bool) (m : Nat) (e : Int) : Op.Complex.isNaN (D.write (.number s m e)) = false := by
  show (D.read (D.nearest s m e)).isNaN = false
  unfold Format.nearest
  split
  · exact read_rung s (Nat.zero_le _)
  · exact read_rung s (Nat.min_le_right _ _)
/-- A quotient by a number that is not nothing is a number or infinite. -/
theorem div_num {x y : Nat} {s t : Bool} {m n : Nat} {i j : Int} (hx : D.read x = .number s m i) (hy : D.read y = .number t n j) (hn : n ≠ 0) :
    ∃ w, floatBits .quo .f64 x y = some w ∧ Op.Complex.isNaN w = false := by
  obtain ⟨c, e, q, l⟩ := quot_facts (s := s) (t := t) (i := i) (j := j) (read_small hx) hn
  refine ⟨D.write (.number (s ^^ t) c e), ?_, write_notNaN _ _ _⟩
  show ((D.read x).quotient 54 (D.read y)).map D.write = _
  rw [hx, hy, q]
  rfl
theorem fin_notNaN {w : Nat} {s : Bool} {m : Nat} {e : Int} (h : D.read w = .number s m e) : Op.Complex.isNaN w = false := by
  show (D.read w).isNaN = false
  rw [h]
  rfl
set_option maxHeartbeats 1000000 in
/-- **A quotient of numbers, the divisor not nothing**: no answer is left open. -/
theorem cquo_num {k l : Int} {a b c d : Nat} (ha : Bd k a) (hb : Bd k b) {s t : Bool} {m n : Nat} {i j : Int} (hc : D.read c = .number s m i) (hd : D.read d = .number t n j) (bc : mg m i ≤ pw l) (bd : mg n j ≤ pw l)
    (hnz : ¬ (m = 0 ∧ n = 0)) (hk : -900 ≤ k) (hk2 : k ≤ 900) (hl : -900 ≤ l) (hl2 : l ≤ 900) :
    ∃ re im, cQuoBits a b c d = some (re, im) ∧ ∀ q, -900 ≤ q → pw q ≤ mg m i ∨ pw q ≤ mg n j → k - q ≤ 900 → -900 ≤ k - q → Bd (k - q + 8) re ∧ Bd (k - q + 8) im := by
  have hge := absGe_facts hc hd
  cases hg : absGe c d with
  | true =>
    have hle := hge.1 hg
    have hm : m ≠ 0 := fun h => by
      subst h
      rw [mg_zero] at hle
      refine hnz ⟨rfl, ?_⟩
      rcases Nat.eq_zero_or_pos n with h | h
      · exact h
      · have := mg_pos (Nat.pos_iff_ne_zero.1 h) j
        grind
    obtain ⟨ratio, m1, e1, f1, r1, b1⟩ := ratio_nm hd hc hm hle
    obtain ⟨rd, m2, e2, f2, r2, b2⟩ := mul_nm r1 hd b1 bd (by omega) (by omega)
    have hs : (t ^^ s ^^ t) = s := by cases s <;> cases t <;> rfl
    rw [hs] at r2
    have bc' : mg m i ≤ pw (2 + l + 1) := Rat.le_trans bc (pw_le (by omega))
    obtain ⟨denom, m3, e3, f3, r3, b3, nz, lo⟩ := add_nm hc r2 bc' b2 (by omega) (by omega) hm
    have br : Bd 2 ratio := ⟨_, _, _, r1, b1⟩
    obtain ⟨x1, g1, h1⟩ := mul_bd hb br (by omega) (by omega)
    obtain ⟨n1, g2, h2⟩ := add_bd (ha.mono (show k ≤ k + 2 + 1 by omega)) h1 (by omega) (by omega)
    obtain ⟨x2, g3, h3⟩ := mul_bd ha br (by omega) (by omega)
    obtain ⟨n2, g4, h4⟩ := sub_bd (hb.mono (show k ≤ k + 2 + 1 by omega)) h3 (by omega) (by omega)
    obtain ⟨_, _, _, q1, _⟩ := h2
    obtain ⟨_, _, _, q2, _⟩ := h4
    obtain ⟨e, g5, nn⟩ := div_num q1 r3 nz
    obtain ⟨f, g6, _⟩ := div_num q2 r3 nz
    refine ⟨e, f, ?_, fun q hq hlo hk3 hk4 => ?_⟩
    · unfold cQuoBits
      simp only [hg, if_true, f1, f2, f3, g1, g2, g3, g4, g5, g6, Option.bind_some, nn, Bool.false_and, Bool.not_false]
    · have hlo' : pw q ≤ mg m i := by
        rcases hlo with h | h
        · exact h
        · exact Rat.le_trans h hle
      have hden := lo q (by omega) hlo'
      have h2' : Bd (k + 2 + 1 + 2) n1 := h2'' g2 (ha.mono (show k ≤ k + 2 + 1 by omega)) h1 (by omega) (by omega)
      have h4' : Bd (k + 2 + 1 + 2) n2 := h4'' g4 (hb.mono (show k ≤ k + 2 + 1 by omega)) h3 (by omega) (by omega)
      obtain ⟨w1, z1, y1⟩ := div_bd h2' r3 hden (by omega) (by omega)
      obtain ⟨w2, z2, y2⟩ := div_bd h4' r3 hden (by omega) (by omega)
      rw [g5] at z1
      rw [g6] at z2
      cases z1
      cases z2
      exact ⟨y1.mono (by omega), y2.mono (by omega)⟩
  | false =>
    have hle := hge.2 hg
    have hm : n ≠ 0 := fun h => by
      subst h
      rw [mg_zero] at hle
      refine hnz ⟨?_, rfl⟩
      rcases Nat.eq_zero_or_pos m with h | h
      · exact h
      · have := mg_pos (Nat.pos_iff_ne_zero.1 h) i
        grind
    obtain ⟨ratio, m1, e1, f1, r1, b1⟩ := ratio_nm hc hd hm hle
    obtain ⟨rc, m2, e2, f2, r2, b2⟩ := mul_nm r1 hc b1 bc (by omega) (by omega)
    have hs : (s ^^ t ^^ s) = t := by cases s <;> cases t <;> rfl
    rw [hs] at r2
    have bd' : mg n j ≤ pw (2 + l + 1) := Rat.le_trans bd (pw_le (by omega))
    obtain ⟨denom, m3, e3, f3, r3, b3, nz, lo⟩ := add_nm hd r2 bd' b2 (by omega) (by omega) hm
    have br : Bd 2 ratio := ⟨_, _, _, r1, b1⟩
    obtain ⟨x1, g1, h1⟩ := mul_bd ha br (by omega) (by omega)
    obtain ⟨n1, g2, h2⟩ := add_bd h1 (hb.mono (show k ≤ k + 2 + 1 by omega)) (by omega) (by omega)
    obtain ⟨x2, g3, h3⟩ := mul_bd hb br (by omega) (by omega)
    obtain ⟨n2, g4, h4⟩ := sub_bd h3 (ha.mono (show k ≤ k + 2 + 1 by omega)) (by omega) (by omega)
    obtain ⟨_, _, _, q1, _⟩ := h2
    obtain ⟨_, _, _, q2, _⟩ := h4
    obtain ⟨e, g5, nn⟩ := div_num q1 r3 nz
    obtain ⟨f, g6, _⟩ := div_num q2 r3 nz
    refine ⟨e, f, ?_, fun q hq hlo hk3 hk4 => ?_⟩
    · unfold cQuoBits
      simp only [hg, Bool.false_eq_true, if_false, f1, f2, f3, g1, g2, g3, g4, g5, g6, Option.bind_some, nn, Bool.false_and, Bool.not_false, if_true]
    · have hlo' : pw q ≤ mg n j := by
        rcases hlo with h | h
        · exact Rat.le_trans h hle
        · exact h
      have hden := lo q (by omega) hlo'
      have h2' : Bd (k + 2 + 1 + 2) n1 := h2'' g2 h1 (hb.mono (show k ≤ k + 2 + 1 by omega)) (by omega) (by omega)
      have h4' : Bd (k + 2 + 1 + 2) n2 := h4'' g4 h3 (ha.mono (show k ≤ k + 2 + 1 by omega)) (by omega) (by omega)
      obtain ⟨w1, z1, y1⟩ := div_bd h2' r3 hden (by omega) (by omega)
      obtain ⟨w2, z2, y2⟩ := div_bd h4' r3 hden (by omega) (by omega)
      rw [g5] at z1
      rw [g6] at z2
      cases z1
      cases z2
      exact ⟨y1.mono (by omega), y2.mono (by omega)⟩
end Go.Sx

/- What operations on floating numbers may give: one answer, or some NaN. -/
namespace Go.Sx
open Go Ieee
set_option linter.unusedVariables false
set_option linter.unusedSimpArgs false

theorem may_fa {P : Program} {op : BinOp} {x y r : Nat} {v : Value} (h : floatBits op .f64 x y = some r) (hv : Pr.may P (.fa op .f64) [.float .f64 x, .float .f64 y] v) : v = .float .f64 r := by
  obtain ⟨w, w', hv⟩ := hv
  have h2 : (Op.floatArith op .f64 x y).run P w = .ok v w' := hv
  rw [run_floatArith w h] at h2
  cases h2
  rfl
theorem may_csum {P : Program} {op : BinOp} (hop : op = .add ∨ op = .sub) {a b c d re im : Nat} {v : Value} (h : cSumBits op .f64 a b c d = some (re, im)) (hv : Pr.may P (.ca op .f64) [.complex .f64 a b, .complex .f64 c d] v) : v = .complex .f64 re im := by
  obtain ⟨w, w', hv⟩ := hv
  have h2 : (Op.complexOp op .f64 a b c d).run P w = .ok v w' := hv
  have h3 := run_complex_sum (P := P) w op hop 0 .f64 a b c d re im h
  have h4 : (Op.complexOp op .f64 a b c d).run P w = .ok (.complex .f64 re im) w := by rcases hop with rfl | rfl <;> exact h3
  rw [h4] at h2
  cases h2
  rfl
theorem run_quo_of {P : Program} {a b c d e f : Nat} {w w' : World} (h : (Op.Complex.quotient a b c d).run P w = .ok (e, f) w') : (Op.complexOp .quo .f64 a b c d).run P w = .ok (.complex .f64 e f) w' := by
  have hc : ∀ x : Nat, Op.Complex.conv .f64 x .f64 = pure x := fun x => by unfold Op.Complex.conv; rw [if_pos rfl]
  simp only [Op.complexOp, hc, Sem.run_bind, Sem.run_pure, Result.andThen_ok]
  rw [show (BinOp.quo == BinOp.mul) = false from rfl]
  simp only [Bool.false_eq_true, if_false]
  rw [Sem.run_bind, h]
  rfl
theorem may_cquo {P : Program} {a b c d re im : Nat} {v : Value} (h : cQuoBits a b c d = some (re, im)) (hv : Pr.may P (.ca .quo .f64) [.complex .f64 a b, .complex .f64 c d] v) : v = .complex .f64 re im := by
  obtain ⟨w, w', hv⟩ := hv
  have h2 : (Op.complexOp .quo .f64 a b c d).run P w = .ok v w' := hv
  have h3 := (run_complex_quo (P := P) w 0 a b c d re im h).1
  have h4 : (Op.complexOp .quo .f64 a b c d).run P w = .ok (.complex .f64 re im) w := h3
  rw [h4] at h2
  cases h2
  rfl
/-! NaN -/
theorem nan_cut (t : Nat) : Op.Complex.isNaN (Question.cut (.nanBits .f64 0 0) t) = true := by
  show (D.read ((t % 2) * 2 ^ 63 + 0x7ff0000000000000 + 1 + (t / 2) % (2 ^ 52 - 1))).isNaN = true
  have hb : D.binade = 4503599627370496 := by decide
  have hw : D.signWeight = 9223372036854775808 := by decide
  have hi : D.infRung = 9218868437227405312 := by decide
  have e1 : (2 : Nat) ^ 63 = 9223372036854775808 := by decide
  have e2 : (2 : Nat) ^ 52 - 1 = 4503599627370495 := by decide
  rw [e1, e2]
  have key : (t % 2 * 9223372036854775808 + 0x7ff0000000000000 + 1 + t / 2 % 4503599627370495) % D.signWeight = 0x7ff0000000000000 + 1 + t / 2 % 4503599627370495 := by rw [hw]; omega
  unfold Format.read
  simp only [key]
  rw [if_neg (by rw [hb]; omega), if_neg (by rw [hi]; omega), if_neg (by rw [hi]; omega)]
  rfl
theorem nan_read {x : Nat} (h : Op.Complex.isNaN x = true) : ∃ s t, D.read x = .nan s t := by
  have h : (D.read x).isNaN = true := h
  cases hr : D.read x with
  | nan s t => exact ⟨s, t, rfl⟩
  | number s m e => rw [hr] at h; cases h
  | infinity s => rw [hr] at h; cases h
theorem fb_nan_l {op : BinOp} (hop : isArith op) {x y : Nat} (hx : Op.Complex.isNaN x = true) : floatBits op .f64 x y = none := by
  obtain ⟨s, t, hr⟩ := nan_read hx
  rcases hop with rfl | rfl | rfl | rfl
  · show ((D.read x).sum (D.read y)).map D.write = _; rw [hr]; rfl
  · show ((D.read x).sum (D.read y).opposite).map D.write = _; rw [hr]; rfl
  · show ((D.read x).product (D.read y)).map D.write = _; rw [hr]; rfl
  · show ((D.read x).quotient 54 (D.read y)).map D.write = _; rw [hr]; rfl
theorem fb_nan_r {op : BinOp} (hop : isArith op) {x y : Nat} (hy : Op.Complex.isNaN y = true) : floatBits op .f64 x y = none := by
  obtain ⟨s, t, hr⟩ := nan_read hy
  rcases hop with rfl | rfl | rfl | rfl
  · show ((D.read x).sum (D.read y)).map D.write = _; rw [hr]; cases D.read x <;> rfl
  · show ((D.read x).sum (D.read y).opposite).map D.write = _; rw [hr]; cases D.read x <;> rfl
  · show ((D.read x).product (D.read y)).map D.write = _; rw [hr]; cases D.read x <;> rfl
  · show ((D.read x).quotient 54 (D.read y)).map D.write = _; rw [hr]; cases D.read x <;> rfl
theorem arith_nan (P : Program) {op : BinOp} (hop : isArith op) {x y : Nat} (h : floatBits op .f64 x y = none) (w : World) : ∃ n w', (Op.Complex.arith op .f64 x y).run P w = .ok n w' ∧ Op.Complex.isNaN n = true := by
  have hc : ∃ n w', (choose (.nanBits .f64 x y)).run P w = .ok n w' ∧ Op.Complex.isNaN n = true := by
    rw [run_choose]
    split
    · rename_i hf
      cases hf
    · exact ⟨_, _, rfl, nan_cut _⟩
  obtain ⟨n, w', h1, h2⟩ := hc
  refine ⟨n, w', ?_, h2⟩
  have hf : (Op.floatArith op .f64 x y).run P w = .ok (.float .f64 n) w' := by
    unfold Op.floatArith
    rcases hop with rfl | rfl | rfl | rfl
    · have h : FloatKind.f64.format.add x y = none := h
      simp only [Sem.run_bind, Sem.run_pure, Result.andThen_ok, h, h1]
    · have h : FloatKind.f64.format.sub x y = none := h
      simp only [Sem.run_bind, Sem.run_pure, Result.andThen_ok, h, h1]
    · have h : FloatKind.f64.format.mul x y = none := h
      simp only [Sem.run_bind, Sem.run_pure, Result.andThen_ok, h, h1]
    · have h : FloatKind.f64.format.div x y = none := h
      simp only [Sem.run_bind, Sem.run_pure, Result.andThen_ok, h, h1]
  unfold Op.Complex.arith
  simp only [Sem.run_bind, hf, Result.andThen_ok, Sem.run_pure]
/-- The same number, or two NaNs. -/
def SameF (x y : Nat) : Prop := x = y ∨ (Op.Complex.isNaN x = true ∧ Op.Complex.isNaN y = true)
/-- What is left of a division by nothing. -/
def ZR (c a x : Nat) : Prop := floatBits .mul .f64 (Op.Complex.copysign Op.Complex.inf c) a = some x ∨ (floatBits .mul .f64 (Op.Complex.copysign Op.Complex.inf c) a = none ∧ Op.Complex.isNaN x = true)
theorem ZR.same {c a x y : Nat} (hx : ZR c a x) (hy : ZR c a y) : SameF x y := by
  rcases hx with h | ⟨h, n⟩ <;> rcases hy with h' | ⟨h', n'⟩
  · rw [h] at h'; exact .inl (Option.some.inj h')
  · rw [h] at h'; cases h'
  · rw [h] at h'; cases h'
  · exact .inr ⟨n, n'⟩
theorem arith_zr (P : Program) (c a : Nat) (w : World) : ∃ x w', (Op.Complex.mul (Op.Complex.copysign Op.Complex.inf c) a).run P w = .ok x w' ∧ ZR c a x := by
  cases h : floatBits .mul .f64 (Op.Complex.copysign Op.Complex.inf c) a with
  | some r => exact ⟨r, w, run_carith w h, .inl h⟩
  | none =>
    obtain ⟨n, w', h1, h2⟩ := arith_nan P isA3 h w
    exact ⟨n, w', h1, .inr ⟨h, h2⟩⟩
theorem zero_eql (P : Program) {c : Nat} {s : Bool} {e : Int} (hc : D.read c = .number s 0 e) (w : World) : (Op.Complex.cmp .eql .f64 c 0).run P w = .ok true w := by
  have ho : FloatKind.f64.format.order c 0 = some .eq := by
    show (D.read c).order (D.read 0) = _
    rw [hc, show D.read 0 = .number false 0 D.leastPlace from read_sub false (by decide)]
    show some (compare (signed s 0 _) (signed false 0 _)) = _
    have : ∀ (s : Bool) (u : Nat), signed s 0 u = 0 := fun s u => by unfold signed; cases s <;> simp
    rw [this, this]
    rfl
  simp [Op.Complex.cmp, Op.floatCmp, asBool, ho]
theorem quo_zero (P : Program) {a b c d : Nat} {s t : Bool} {e e' : Int} (ha : Op.Complex.isNaN a = false) (hc : D.read c = .number s 0 e) (hd : D.read d = .number t 0 e') (w : World) :
    ∃ x y w', (Op.Complex.quotient a b c d).run P w = .ok (x, y) w' ∧ ZR c a x ∧ ZR c b y := by
  have hge : absGe c d = true := by
    cases h : absGe c d with
    | true => rfl
    | false =>
      exfalso
      have : D.order (Op.Complex.abs c) (Op.Complex.abs d) = some .eq := by
        show (D.read _).order (D.read _) = _
        rw [abs_read hc, abs_read hd]
        show some (compare (signed false 0 _) (signed false 0 _)) = _
        have : ∀ (s : Bool) (u : Nat), signed s 0 u = 0 := fun s u => by unfold signed; cases s <;> simp
        rw [this, this]
        rfl
      have g : absGe c d = (D.order (Op.Complex.abs c) (Op.Complex.abs d) == some .gt || D.order (Op.Complex.abs c) (Op.Complex.abs d) == some .eq) := rfl
      rw [g, this] at h
      cases h
  have h0 : floatBits .quo .f64 d c = none := by
    show ((D.read d).quotient 54 (D.read c)).map D.write = _
    rw [hc, hd]
    rfl
  have q1 : ∃ x y w', (quo1 a b c d).run P w = .ok (x, y) w' ∧ Op.Complex.isNaN x = true ∧ Op.Complex.isNaN y = true := by
    obtain ⟨x1, w1, h1, n1⟩ := arith_nan P isA4 h0 w
    obtain ⟨x2, w2, h2, n2⟩ := arith_nan P isA3 (fb_nan_l (y := d) isA3 n1) w1
    obtain ⟨x3, w3, h3, n3⟩ := arith_nan P isA1 (fb_nan_r (x := c) isA1 n2) w2
    obtain ⟨x4, w4, h4, n4⟩ := arith_nan P isA3 (fb_nan_r (x := b) isA3 n1) w3
    obtain ⟨x5, w5, h5, n5⟩ := arith_nan P isA1 (fb_nan_r (x := a) isA1 n4) w4
    obtain ⟨x6, w6, h6, n6⟩ := arith_nan P isA4 (fb_nan_l (y := x3) isA4 n5) w5
    obtain ⟨x7, w7, h7, n7⟩ := arith_nan P isA3 (fb_nan_r (x := a) isA3 n1) w6
    obtain ⟨x8, w8, h8, n8⟩ := arith_nan P isA2 (fb_nan_r (x := b) isA2 n7) w7
    obtain ⟨x9, w9, h9, n9⟩ := arith_nan P isA4 (fb_nan_l (y := x3) isA4 n8) w8
    refine ⟨x6, x9, w9, ?_, n6, n9⟩
    have ht : (Op.Complex.cmp .geq .f64 (Op.Complex.abs c) (Op.Complex.abs d)).run P w = .ok true w := by rw [run_ccmp_geq, hge]
    simp only [quo1, Sem.run_bind, ht, Result.andThen_ok, if_true, Op.Complex.quo, Op.Complex.sub, Op.Complex.mul, Op.Complex.add, h1, h2, h3, h4, h5, h6, h7, h8, h9, Sem.run_pure]
  obtain ⟨x, y, w1, h1, nx, ny⟩ := q1
  obtain ⟨x1, w2, h2, z1⟩ := arith_zr P c a w1
  obtain ⟨x2, w3, h3, z2⟩ := arith_zr P c b w2
  refine ⟨x1, x2, w3, ?_, z1, z2⟩
  rw [quotient_eq, Sem.run_bind, h1, Result.andThen_ok]
  unfold quo2
  rw [Sem.run_bind, zero_eql P hc, Result.andThen_ok, Sem.run_bind, zero_eql P hd, Result.andThen_ok]
  simp only [nx, ny, ha, Bool.and_self, Bool.not_true, Bool.false_eq_true, if_false, Bool.not_false, Bool.true_or, if_true, Bool.true_and]
  rw [Sem.run_bind, h2, Result.andThen_ok, Sem.run_bind, h3]
  rfl
/-- **Two answers to the same division of numbers are the same, or NaNs.** -/
theorem quo_same {P P' : Program} {k : Int} {a b c d : Nat} (ha : Bd k a) (hb : Bd k b) (hc : Bd k c) (hd : Bd k d) (hk : -900 ≤ k) (hk2 : k ≤ 900) {v v' : Value}
    (hv : Pr.may P (.ca .quo .f64) [.complex .f64 a b, .complex .f64 c d] v) (hv' : Pr.may P' (.ca .quo .f64) [.complex .f64 a b, .complex .f64 c d] v') :
    ∃ e f e' f', v = .complex .f64 e f ∧ v' = .complex .f64 e' f' ∧ SameF e e' ∧ SameF f f' := by
  obtain ⟨s, m, i, rc, bc⟩ := hc
  obtain ⟨t, n, j, rd, bd⟩ := hd
  by_cases hz : m = 0 ∧ n = 0
  · obtain ⟨rfl, rfl⟩ := hz
    obtain ⟨_, _, _, ra, _⟩ := ha
    have na := fin_notNaN ra
    have key : ∀ {P : Program} {v : Value}, Pr.may P (.ca .quo .f64) [.complex .f64 a b, .complex .f64 c d] v → ∃ e f, v = .complex .f64 e f ∧ ZR c a e ∧ ZR c b f := by
      intro P v hv
      obtain ⟨w, w', hv⟩ := hv
      have h2 : (Op.complexOp .quo .f64 a b c d).run P w = .ok v w' := hv
      obtain ⟨x, y, w1, h1, z1, z2⟩ := quo_zero P (b := b) na rc rd w
      rw [run_quo_of h1] at h2
      cases h2
      exact ⟨x, y, rfl, z1, z2⟩
    obtain ⟨e, f, rfl, z1, z2⟩ := key hv
    obtain ⟨e', f', rfl, z3, z4⟩ := key hv'
    exact ⟨e, f, e', f', rfl, rfl, z1.same z3, z2.same z4⟩
  · obtain ⟨re, im, hq, _⟩ := cquo_num ha hb rc rd bc bd hz hk hk2 hk hk2
    rw [may_cquo hq hv, may_cquo hq hv']
    exact ⟨re, im, re, im, rfl, rfl, .inl rfl, .inl rfl⟩
end Go.Sx

/- Wide films: every step on the way is a number, and only one. -/
namespace Go.Sx
open Go Ieee
set_option linter.unusedVariables false
set_option linter.unusedSimpArgs false

theorem quot_lo {s t : Bool} {m n : Nat} {i j : Int} (hm : m < 2 ^ 53) (hn : n ≠ 0) : ∃ c e, (Datum.number s m i).quotient 54 (.number t n j) = some (.number (s ^^ t) c e) ∧ mg m i ≤ 2 * (mg c e * mg n j) ∧ mg c e * mg n j ≤ 2 * mg m i := by
  obtain ⟨c0, e0', q0, l0⟩ := quot_facts (s := s) (t := t) (i := i) (j := j) hm hn
  have e0 : (Datum.number s m i).quotient 54 (.number t n j) = some (.number (s ^^ t) (2 * ((m <<< (54 + n.log2 - m.log2)) / n) + ((m <<< (54 + n.log2 - m.log2)) % n != 0).toNat) (i - j - ((54 + n.log2 - m.log2 : Nat) : Int) - 1)) := by
    show (if n = 0 then _ else _) = _
    rw [if_neg hn]
  have e0c := e0
  rw [q0] at e0c
  simp only [Option.some.injEq, Datum.number.injEq] at e0c
  refine ⟨_, _, e0, ?_, by rw [← e0c.2.1, ← e0c.2.2]; exact l0⟩
  obtain ⟨more, hmore⟩ : ∃ more, 54 + n.log2 - m.log2 = more := ⟨_, rfl⟩
  rw [hmore]
  have hdm := Nat.div_add_mod (m <<< more) n
  have hml := Nat.mod_lt (m <<< more) (Nat.pos_iff_ne_zero.2 hn)
  have hsh : m <<< more = m * 2 ^ more := Nat.shiftLeft_eq _ _
  have hc : (m <<< more) % n = 0 ∧ ((m <<< more) % n != 0).toNat = 0 ∨ ((m <<< more) % n != 0).toNat = 1 := by
    by_cases h : (m <<< more) % n = 0
    · left; rw [h]; exact ⟨rfl, rfl⟩
    · right
      have : ((m <<< more) % n != 0) = true := by simpa using h
      rw [this]; rfl
  generalize hq : (m <<< more) / n = q at *
  generalize hr : (m <<< more) % n = r at *
  generalize hcc : (r != 0).toNat = c at *
  have hge : m * 2 ^ more ≤ (2 * q + c) * n := by
    rw [Nat.add_mul, Nat.mul_assoc]
    have : n * q = q * n := Nat.mul_comm _ _
    rcases hc with ⟨h1, h2⟩ | h
    · subst h1; subst h2; omega
    · subst h; omega
  have e1 : mg (2 * q + c) (i - j - (more : Int) - 1) * mg n j = mg ((2 * q + c) * n) (i - (more : Int) - 1) := by
    rw [← mg_mul]
    congr 1
    omega
  rw [e1]
  have h1 := mg_mono hge (i - (more : Int) - 1)
  have e2 : 2 * mg (m * 2 ^ more) (i - (more : Int) - 1) = mg m i := by
    unfold mg
    rw [Rat.natCast_mul, ← pw_nat]
    have : pw i = 2 * (pw (more : Int) * pw (i - (more : Int) - 1)) := by rw [← pw_add, ← pw_succ]; congr 1; omega
    rw [this]
    grind
  rw [← e2]
  grind
/-! integers -/
def nrF (n : Int) : Nat := FloatKind.f64.nearest n
theorem mg_int (k : Nat) : mg k 0 = (k : Rat) := by unfold mg; rw [pw_zero, Rat.mul_one]
theorem nr_read {n : Int} (h : n.natAbs ≤ 2000000000) : ∃ s m e, D.read (nrF n) = .number s m e ∧ mg m e ≤ pw 32 ∧ (n ≠ 0 → pw (-1) ≤ mg m e) := by
  have hle : mg n.natAbs 0 ≤ pw 31 := by
    rw [mg_int, show (31 : Int) = ((31 : Nat) : Int) from rfl, pw_nat]
    have : n.natAbs ≤ 2 ^ 31 := by omega
    exact_mod_cast this
  obtain ⟨m, e, r, b, lo⟩ := write_bd (s := decide (n < 0)) (k := 31) (by omega) (by omega) hle
  refine ⟨_, m, e, r, b, fun hn => lo 0 (by omega) ?_⟩
  rw [mg_int, pw_zero]
  have : 1 ≤ n.natAbs := by omega
  exact_mod_cast this
/-- A fraction's part as a floating number. -/
def fwF (r d : Int) : Nat := (floatBits .quo .f64 (nrF r) (nrF d)).getD 0
theorem fw_facts {r d : Int} (hr : r.natAbs ≤ 2000000000) (hd : d.natAbs ≤ 2000000000) (hd0 : d ≠ 0) : floatBits .quo .f64 (nrF r) (nrF d) = some (fwF r d) ∧ ∃ s m e, D.read (fwF r d) = .number s m e ∧ mg m e ≤ pw 36 ∧ (r ≠ 0 → pw (-36) ≤ mg m e) := by
  obtain ⟨s, m, i, r1, b1, l1⟩ := nr_read hr
  obtain ⟨t, n, j, r2, b2, l2⟩ := nr_read hd
  have l2 := l2 hd0
  have hn : n ≠ 0 := fun h => by
    subst h
    rw [mg_zero] at l2
    have := pw_pos (-1)
    grind
  obtain ⟨c, e, q, lo, hi⟩ := quot_lo (s := s) (t := t) (i := i) (j := j) (read_small r1) hn
  have hm : mg c e ≤ pw 34 := by
    have h3 : mg c e * pw (-1) ≤ mg c e * mg n j := Rat.mul_le_mul_of_nonneg_left l2 (mg_nn c e)
    have h4 : mg c e * pw (-1) ≤ pw 34 * pw (-1) := by
      rw [← pw_add, show (34 : Int) + -1 = 32 + 1 from rfl, pw_succ]
      grind
    exact Rat.le_of_mul_le_mul_right h4 (pw_pos (-1))
  obtain ⟨m', e', r', b', lo'⟩ := write_bd (s := s ^^ t) (k := 34) (by omega) (by omega) hm
  have hf : floatBits .quo .f64 (nrF r) (nrF d) = some (D.write (.number (s ^^ t) c e)) := by
    show ((D.read (nrF r)).quotient 54 (D.read (nrF d))).map D.write = _
    rw [r1, r2, q]
    rfl
  have hw : fwF r d = D.write (.number (s ^^ t) c e) := by unfold fwF; rw [hf]; rfl
  refine ⟨by rw [hf, hw], _, m', e', by rw [hw]; exact r', Rat.le_trans b' (pw_le (by omega)), fun h0 => ?_⟩
  have l1 := l1 h0
  have h5 : pw (-34) ≤ mg c e := by
    have h3 : mg c e * mg n j ≤ mg c e * pw 32 := Rat.mul_le_mul_of_nonneg_left b2 (mg_nn c e)
    have h4 : pw (-34) * pw 32 ≤ mg c e * pw 32 := by
      rw [← pw_add, show (-34 : Int) + 32 = -2 from rfl]
      have : pw (-1) = 2 * pw (-2) := by rw [← pw_succ]; rfl
      grind
    exact Rat.le_of_mul_le_mul_right h4 (pw_pos 32)
  exact Rat.le_trans (pw_le (by omega)) (lo' (-34) (by omega) h5)
/-! steps -/
abbrev CF := Nat × Nat
def BdC (k : Int) (z : CF) : Prop := Bd k z.1 ∧ Bd k z.2
theorem BdC.mono {k l : Int} {z : CF} (h : BdC k z) (hl : k ≤ l) : BdC l z := ⟨h.1.mono hl, h.2.mono hl⟩
def iF : CF := (0, 4607182418800017408)
theorem iF_bd : BdC 0 iF := by
  refine ⟨⟨false, 0, _, read_sub false (by decide), by rw [mg_zero]; exact Rat.le_of_lt (pw_pos _)⟩, ⟨false, 4503599627370496, -52, by decide +kernel, ?_⟩⟩
  rw [show 4503599627370496 = 2 ^ 52 from rfl, mg_pow]
  exact pw_le (by omega)
def wMul (x y : CF) : CF := (cMulBits x.1 x.2 y.1 y.2).getD (0, 0)
def wQuo (x y : CF) : CF := (cQuoBits x.1 x.2 y.1 y.2).getD (0, 0)
theorem wMul_bd {k l : Int} {x y : CF} (hx : BdC k x) (hy : BdC l y) (h1 : -900 ≤ k + l) (h2 : k + l ≤ 900) : cMulBits x.1 x.2 y.1 y.2 = some (wMul x y) ∧ BdC (k + l + 3) (wMul x y) := by
  obtain ⟨re, im, e, b1, b2⟩ := cmul_bd hx.1 hx.2 hy.1 hy.2 h1 h2
  unfold wMul
  rw [e]
  exact ⟨rfl, b1, b2⟩
/-- A divisor: not too great, one of its parts not too small. -/
def Dv (q k : Int) (z : CF) : Prop := ∃ s m i t n j, D.read z.1 = .number s m i ∧ D.read z.2 = .number t n j ∧ mg m i ≤ pw k ∧ mg n j ≤ pw k ∧ (pw q ≤ mg m i ∨ pw q ≤ mg n j)
theorem Dv.bd {q k : Int} {z : CF} (h : Dv q k z) : BdC k z := by
  obtain ⟨s, m, i, t, n, j, r1, r2, b1, b2, _⟩ := h
  exact ⟨⟨_, _, _, r1, b1⟩, ⟨_, _, _, r2, b2⟩⟩
theorem wQuo_bd {k l q : Int} {x y : CF} (hx : BdC k x) (hy : Dv q l y) (hk : -900 ≤ k) (hk2 : k ≤ 900) (hl : -900 ≤ l) (hl2 : l ≤ 900) (hq : -900 ≤ q) (h3 : k - q ≤ 900) (h4 : -900 ≤ k - q) : cQuoBits x.1 x.2 y.1 y.2 = some (wQuo x y) ∧ BdC (k - q + 8) (wQuo x y) := by
  obtain ⟨s, m, i, t, n, j, r1, r2, b1, b2, lo⟩ := hy
  have hz : ¬ (m = 0 ∧ n = 0) := by
    rintro ⟨rfl, rfl⟩
    have := pw_pos q
    rw [mg_zero, mg_zero] at lo
    rcases lo with h | h <;> grind
  obtain ⟨re, im, e, b⟩ := cquo_num hx.1 hx.2 r1 r2 b1 b2 hz hk hk2 hl hl2
  obtain ⟨c1, c2⟩ := b q hq lo h3 h4
  unfold wQuo
  rw [e]
  exact ⟨rfl, c1, c2⟩
/-- An index as a complex number. -/
def idxF (v : Q) : CF := (fwF v.1 v.2.2, fwF v.2.1 v.2.2)
theorem idx_dv {v : Q} (h : validQ v = true) (hz : ¬ (v.1 = 0 ∧ v.2.1 = 0)) : Dv (-36) 36 (idxF v) := by
  obtain ⟨b1, b2, b3, b4⟩ := valid_bounds h
  obtain ⟨_, s, m, i, r1, h1, l1⟩ := fw_facts (r := v.1) (d := v.2.2) (by omega) (by omega) (by omega)
  obtain ⟨_, t, n, j, r2, h2, l2⟩ := fw_facts (r := v.2.1) (d := v.2.2) (by omega) (by omega) (by omega)
  refine ⟨s, m, i, t, n, j, r1, r2, h1, h2, ?_⟩
  by_cases h0 : v.1 = 0
  · exact .inr (l2 fun h => hz ⟨h0, h⟩)
  · exact .inl (l1 h0)
def ngF (b : Nat) : Nat := Op.negFloat .f64 b
def ngC (z : CF) : CF := (ngF z.1, ngF z.2)
/-- One layer: what stands above and below it. -/
def wStep (n : CF) (qt : Int) (p q : CF) : CF × CF :=
  let p1 := if qt % 2 = 1 then wQuo (wMul iF q) n else p
  let q1 := if qt % 2 = 1 then wMul (wMul iF n) p else q
  if 2 ≤ qt then (ngC p1, ngC q1) else (p1, q1)
theorem odd_bd {k : Int} {n p q : CF} (hn : Dv (-36) 36 n) (hp : BdC k p) (hq : BdC k q) (hk : 0 ≤ k) (hk2 : k ≤ 700) :
    cMulBits iF.1 iF.2 q.1 q.2 = some (wMul iF q) ∧ cQuoBits (wMul iF q).1 (wMul iF q).2 n.1 n.2 = some (wQuo (wMul iF q) n) ∧ cMulBits iF.1 iF.2 n.1 n.2 = some (wMul iF n) ∧ cMulBits (wMul iF n).1 (wMul iF n).2 p.1 p.2 = some (wMul (wMul iF n) p) ∧
    BdC (k + 47) (wQuo (wMul iF q) n) ∧ BdC (k + 47) (wMul (wMul iF n) p) := by
  obtain ⟨e1, b1⟩ := wMul_bd iF_bd hq (by omega) (by omega)
  obtain ⟨e2, b2⟩ := wQuo_bd b1 hn (by omega) (by omega) (by omega) (by omega) (by omega) (by omega) (by omega)
  obtain ⟨e3, b3⟩ := wMul_bd iF_bd hn.bd (by omega) (by omega)
  obtain ⟨e4, b4⟩ := wMul_bd b3 hp (by omega) (by omega)
  exact ⟨e1, e2, e3, e4, b2.mono (by omega), b4.mono (by omega)⟩
theorem ng_read {w : Nat} {s : Bool} {m : Nat} {e : Int} (h : D.read w = .number s m e) : D.read (ngF w) = .number (!s) m e := by
  have hw : D.signWeight = 2 ^ 63 := by decide
  have hx : ngF w = w ^^^ 2 ^ 63 := rfl
  have key : (ngF w) % D.signWeight = w % D.signWeight ∧ ((ngF w) / D.signWeight % 2 == 1) = !(w / D.signWeight % 2 == 1) := by
    rw [hx, hw]
    constructor
    · rw [Nat.xor_mod_two_pow, Nat.mod_self, Nat.xor_zero]
    · rw [Nat.xor_div_two_pow, Nat.div_self (Nat.two_pow_pos 63)]
      generalize w / 2 ^ 63 = x
      have h2 : (x ^^^ 1) % 2 = (x % 2) ^^^ 1 := by
        have := Nat.xor_mod_two_pow (a := x) (b := 1) (n := 1)
        simpa using this
      rw [h2]
      rcases Nat.mod_two_eq_zero_or_one x with h | h <;> rw [h] <;> rfl
  unfold Format.read at h ⊢
  simp only at h ⊢
  rw [key.1, key.2]
  split at h
  · rename_i hc
    rw [if_pos hc]
    cases h; rfl
  · rename_i hc
    rw [if_neg hc]
    split at h
    · rename_i hc2
      rw [if_pos hc2]
      cases h; rfl
    · split at h <;> cases h
theorem ng_bd {k : Int} {w : Nat} (h : Bd k w) : Bd k (ngF w) := by
  obtain ⟨s, m, e, r, b⟩ := h
  exact ⟨_, m, e, ng_read r, b⟩
theorem ngC_bd {k : Int} {z : CF} (h : BdC k z) : BdC k (ngC z) := ⟨ng_bd h.1, ng_bd h.2⟩
theorem wStep_bd {k : Int} {n p q : CF} {qt : Int} (hn : Dv (-36) 36 n) (hp : BdC k p) (hq : BdC k q) (hk : 0 ≤ k) (hk2 : k ≤ 700) : BdC (k + 47) (wStep n qt p q).1 ∧ BdC (k + 47) (wStep n qt p q).2 := by
  obtain ⟨_, _, _, _, b1, b2⟩ := odd_bd hn hp hq hk hk2
  have h1 : BdC (k + 47) (if qt % 2 = 1 then wQuo (wMul iF q) n else p) := by
    split
    · exact b1
    · exact hp.mono (by omega)
  have h2 : BdC (k + 47) (if qt % 2 = 1 then wMul (wMul iF n) p else q) := by
    split
    · exact b2
    · exact hq.mono (by omega)
  unfold wStep
  dsimp only
  split
  · exact ⟨ngC_bd h1, ngC_bd h2⟩
  · exact ⟨h1, h2⟩
def oneF : CF := (4607182418800017408, 0)
theorem oneF_bd : BdC 0 oneF := ⟨iF_bd.2, iF_bd.1⟩
/-- What the last k layers make of it. -/
def wRun (n : Nat → CF) (qt : Nat → Int) (b : CF) : Nat → CF × CF
  | 0 => (oneF, b)
  | k + 1 => wStep (n k) (qt k) (wRun n qt b k).1 (wRun n qt b k).2
theorem wRun_bd {n : Nat → CF} {qt : Nat → Int} {b : CF} {N : Nat} (hN : N ≤ 8) (hn : ∀ k, k < N → Dv (-36) 36 (n k)) (hb : BdC 36 b) : ∀ k, k ≤ N → BdC (36 + 47 * k) (wRun n qt b k).1 ∧ BdC (36 + 47 * k) (wRun n qt b k).2
  | 0, _ => ⟨oneF_bd.mono (by omega), hb.mono (by omega)⟩
  | k + 1, h => by
    obtain ⟨h1, h2⟩ := wRun_bd hN hn hb k (by omega)
    obtain ⟨b1, b2⟩ := wStep_bd (qt := qt k) (hn k (by omega)) h1 h2 (by omega) (by omega)
    exact ⟨b1.mono (by omega), b2.mono (by omega)⟩
def wAdd (x y : CF) : CF := ((floatBits .add .f64 x.1 y.1).getD 0, (floatBits .add .f64 x.2 y.2).getD 0)
def wSub (x y : CF) : CF := ((floatBits .sub .f64 x.1 y.1).getD 0, (floatBits .sub .f64 x.2 y.2).getD 0)
theorem wAdd_bd {k : Int} {x y : CF} (hx : BdC k x) (hy : BdC k y) (h1 : -900 ≤ k) (h2 : k ≤ 900) : cSumBits .add .f64 x.1 x.2 y.1 y.2 = some (wAdd x y) ∧ BdC (k + 2) (wAdd x y) := by
  obtain ⟨a, e1, b1⟩ := add_bd hx.1 hy.1 (by omega) (by omega)
  obtain ⟨b, e2, b2⟩ := add_bd hx.2 hy.2 (by omega) (by omega)
  unfold cSumBits wAdd
  rw [e1, e2]
  exact ⟨rfl, b1, b2⟩
theorem wSub_bd {k : Int} {x y : CF} (hx : BdC k x) (hy : BdC k y) (h1 : -900 ≤ k) (h2 : k ≤ 900) : cSumBits .sub .f64 x.1 x.2 y.1 y.2 = some (wSub x y) ∧ BdC (k + 2) (wSub x y) := by
  obtain ⟨a, e1, b1⟩ := sub_bd hx.1 hy.1 (by omega) (by omega)
  obtain ⟨b, e2, b2⟩ := sub_bd hx.2 hy.2 (by omega) (by omega)
  unfold cSumBits wSub
  rw [e1, e2]
  exact ⟨rfl, b1, b2⟩
/-- What is divided last, and by what. -/
def wTop (n : Nat → CF) (qt : Nat → Int) (a b : CF) (N : Nat) : CF := wSub (wMul a (wRun n qt b N).1) (wRun n qt b N).2
def wBot (n : Nat → CF) (qt : Nat → Int) (a b : CF) (N : Nat) : CF := wAdd (wMul a (wRun n qt b N).1) (wRun n qt b N).2
theorem wEnds_bd {n : Nat → CF} {qt : Nat → Int} {a b : CF} {N : Nat} (hN : N ≤ 8) (hn : ∀ k, k < N → Dv (-36) 36 (n k)) (ha : BdC 36 a) (hb : BdC 36 b) :
    cMulBits a.1 a.2 (wRun n qt b N).1.1 (wRun n qt b N).1.2 = some (wMul a (wRun n qt b N).1) ∧
    cSumBits .sub .f64 (wMul a (wRun n qt b N).1).1 (wMul a (wRun n qt b N).1).2 (wRun n qt b N).2.1 (wRun n qt b N).2.2 = some (wTop n qt a b N) ∧
    cSumBits .add .f64 (wMul a (wRun n qt b N).1).1 (wMul a (wRun n qt b N).1).2 (wRun n qt b N).2.1 (wRun n qt b N).2.2 = some (wBot n qt a b N) ∧
    BdC 500 (wTop n qt a b N) ∧ BdC 500 (wBot n qt a b N) := by
  obtain ⟨h1, h2⟩ := wRun_bd (qt := qt) hN hn hb N (Nat.le_refl _)
  obtain ⟨e1, b1⟩ := wMul_bd ha h1 (by omega) (by omega)
  have h2' : BdC (36 + (36 + 47 * (N : Int)) + 3) (wRun n qt b N).2 := h2.mono (by omega)
  obtain ⟨e2, b2⟩ := wSub_bd b1 h2' (by omega) (by omega)
  obtain ⟨e3, b3⟩ := wAdd_bd b1 h2' (by omega) (by omega)
  exact ⟨e1, e2, e3, b2.mono (by omega), b3.mono (by omega)⟩
/-- What may come of it. -/
def WideRes (n : Nat → CF) (qt : Nat → Int) (a b : CF) (N : Nat) (v : Value) : Prop := ∃ P : Program, Pr.may P (.ca .quo .f64) [.complex .f64 (wTop n qt a b N).1 (wTop n qt a b N).2, .complex .f64 (wBot n qt a b N).1 (wBot n qt a b N).2] v
theorem wide_same {n : Nat → CF} {qt : Nat → Int} {a b : CF} {N : Nat} (hN : N ≤ 8) (hn : ∀ k, k < N → Dv (-36) 36 (n k)) (ha : BdC 36 a) (hb : BdC 36 b) {v v' : Value} (h : WideRes n qt a b N v) (h' : WideRes n qt a b N v') :
    ∃ e f e' f', v = .complex .f64 e f ∧ v' = .complex .f64 e' f' ∧ SameF e e' ∧ SameF f f' := by
  obtain ⟨_, _, _, b1, b2⟩ := wEnds_bd (qt := qt) hN hn ha hb
  obtain ⟨P, h⟩ := h
  obtain ⟨P', h'⟩ := h'
  exact quo_same b1.1 b1.2 b2.1 b2.2 (by omega) (by omega) h h'
end Go.Sx

/- Floating numbers: what is written exactly, and how near products, quotients and sums are. -/
namespace Go.Sx
open Go Ieee
set_option linter.unusedVariables false
set_option linter.unusedSimpArgs false

theorem cut_exact {c : Nat} {s : Bool} {d : Nat} (hd : d ≤ c.log2 + 2) (h : c % 2 ^ d = 0) : Toward.even.cut s c d = c / 2 ^ d := by
  obtain ⟨low, hl, hc⟩ := cut_even (n := c) (drop := d) (neg := s) hd
  rw [h] at hc
  rcases hc with ⟨h1, _⟩ | ⟨_, h2⟩
  · rw [h1, hl]
  · have := Nat.two_pow_pos d
    omega
theorem log2_mul_pow {m : Nat} (hm : m ≠ 0) (u : Nat) : (m * 2 ^ u).log2 = m.log2 + u := by
  have h0 : m * 2 ^ u ≠ 0 := Nat.mul_ne_zero hm (Nat.pos_iff_ne_zero.1 (Nat.two_pow_pos u))
  have h1 : 2 ^ (m.log2 + u) ≤ m * 2 ^ u := by rw [Nat.pow_add]; exact Nat.mul_le_mul_right _ (Nat.log2_self_le hm)
  have h2 : m * 2 ^ u < 2 ^ (m.log2 + u + 1) := by
    rw [show m.log2 + u + 1 = (m.log2 + 1) + u by omega, Nat.pow_add]
    exact Nat.mul_lt_mul_of_pos_right Nat.lt_log2_self (Nat.two_pow_pos u)
  exact (Nat.log2_eq_iff h0).2 ⟨h1, h2⟩
/-- **A number that the format has is written as it is.** -/
theorem write_exact {s : Bool} {m u : Nat} {e : Int} (hm : m < 2 ^ 53) (he : -1074 ≤ e + u) (hL : m = 0 ∨ (m.log2 : Int) + u + e ≤ 1000) :
    ∃ m' e', D.read (D.write (.number s (m * 2 ^ u) e)) = .number s m' e' ∧ mg m' e' = mg m (e + u) := by
  have hlp : D.leastPlace = -1074 := by decide
  have hfb : (D.fractionBits : Int) = 52 := by decide
  have hb : D.binade = 4503599627370496 := by decide
  have hi : D.infRung = 9218868437227405312 := by decide
  by_cases h0 : m = 0
  · subst h0
    rw [Nat.zero_mul]
    have hw : D.write (.number s 0 e) = D.word s 0 := rfl
    rw [hw, read_sub s (by decide)]
    exact ⟨0, _, rfl, by rw [mg_zero, mg_zero]⟩
  have hL : (m.log2 : Int) + u + e ≤ 1000 := hL.resolve_left h0
  have hlm : m.log2 ≤ 52 := by have := (Nat.log2_lt h0).2 hm; omega
  have hc0 : m * 2 ^ u ≠ 0 := Nat.mul_ne_zero h0 (Nat.pos_iff_ne_zero.1 (Nat.two_pow_pos u))
  have hlc := log2_mul_pow h0 u
  -- the last place that is kept
  obtain ⟨last, hlast⟩ : ∃ last, max (e + (m * 2 ^ u).log2 - D.fractionBits) D.leastPlace = last := ⟨_, rfl⟩
  have hl1 : last ≤ e + u := by rw [← hlast, hlc, hlp, hfb]; omega
  have hl2 : -1074 ≤ last := by rw [← hlast, hlp]; omega
  have hl3 : (m.log2 : Int) + u + e - 52 ≤ last := by rw [← hlast, hlc, hlp, hfb]; omega
  have hl4 : last = (m.log2 : Int) + u + e - 52 ∨ last = -1074 := by rw [← hlast, hlc, hlp, hfb]; omega
  have key : ∃ kept : Nat, Toward.even.cut s ((m * 2 ^ u) <<< (e - last).toNat) (last - e).toNat = kept ∧ mg kept last = mg m (e + u) ∧ kept < 2 ^ 53 ∧ (last = (m.log2 : Int) + u + e - 52 → 2 ^ 52 ≤ kept) := by
    refine ⟨m * 2 ^ (e + u - last).toNat, ?_, ?_, ?_, ?_⟩
    · rcases Int.lt_or_le last e with h | h
      · have z : (last - e).toNat = 0 := by omega
        rw [z, Nat.shiftLeft_eq, cut_exact (Nat.zero_le _) (by rw [Nat.pow_zero, Nat.mod_one]), Nat.pow_zero, Nat.div_one, Nat.mul_assoc, ← Nat.pow_add]
        congr 2
        omega
      · have z : (e - last).toNat = 0 := by omega
        have hdu : (last - e).toNat ≤ u := by omega
        have hsp : m * 2 ^ u = m * 2 ^ (e + u - last).toNat * 2 ^ (last - e).toNat := by
          rw [Nat.mul_assoc, ← Nat.pow_add]
          congr 2
          omega
        rw [z, Nat.shiftLeft_zero, cut_exact (by rw [hlc]; omega) (by rw [hsp, Nat.mul_mod_left]), hsp, Nat.mul_div_cancel _ (Nat.two_pow_pos _)]
    · have := mg_shift m (e + u - last).toNat (e + u)
      rw [← this]
      congr 1
      omega
    · have h5 : m * 2 ^ (e + u - last).toNat < 2 ^ (m.log2 + 1) * 2 ^ (e + u - last).toNat := Nat.mul_lt_mul_of_pos_right Nat.lt_log2_self (Nat.two_pow_pos _)
      rw [← Nat.pow_add] at h5
      exact Nat.lt_of_lt_of_le h5 (Nat.pow_le_pow_right (by omega) (by omega))
    · intro h
      have h5 : 2 ^ m.log2 * 2 ^ (e + u - last).toNat ≤ m * 2 ^ (e + u - last).toNat := Nat.mul_le_mul_right _ (Nat.log2_self_le h0)
      rw [← Nat.pow_add] at h5
      refine Nat.le_trans (Nat.le_of_eq ?_) h5
      congr 1
      omega
  obtain ⟨kept, hk, hv, k2, k3⟩ := key
  have hwr : D.write (.number s (m * 2 ^ u) e) = D.word s ((last + 1074).toNat * D.binade + kept) := by
    show D.nearest s (m * 2 ^ u) e = _
    unfold Format.nearest
    rw [if_neg hc0]
    simp only [hlast]
    rw [hk, hlp, show (last - -1074) = last + 1074 by omega, Nat.min_eq_left]
    rw [hb, hi]
    rcases hl4 with h | h <;> omega
  rw [hwr]
  rcases hl4 with h | h
  · rw [read_norm s (k3 h) k2 (by omega)]
    refine ⟨kept, _, rfl, ?_⟩
    rw [← hv]
    congr 1
    rw [hlp]; omega
  · have z : (last + 1074).toNat = 0 := by omega
    rw [z, Nat.zero_mul, Nat.zero_add, read_sub s k2]
    refine ⟨kept, _, rfl, ?_⟩
    rw [← hv, hlp, h]
/-- A zero added or taken away changes nothing. -/
theorem shl_pow (m : Nat) (n : Nat) : m <<< n = m * 2 ^ n := Nat.shiftLeft_eq m n
theorem add_zero_nm {x y : Nat} {s t : Bool} {m : Nat} {i j : Int} (hx : D.read x = .number s m i) (hy : D.read y = .number t 0 j) (hm : m ≠ 0) (hL : (m.log2 : Int) + i ≤ 1000) :
    (∃ w m' e', floatBits .add .f64 x y = some w ∧ D.read w = .number s m' e' ∧ mg m' e' = mg m i) ∧ (∃ w m' e', floatBits .add .f64 y x = some w ∧ D.read w = .number s m' e' ∧ mg m' e' = mg m i) ∧
    (∃ w m' e', floatBits .sub .f64 x y = some w ∧ D.read w = .number s m' e' ∧ mg m' e' = mg m i) ∧ (∃ w m' e', floatBits .sub .f64 y x = some w ∧ D.read w = .number (!s) m' e' ∧ mg m' e' = mg m i) := by
  have h3 : min i j ≤ i := Int.min_le_left _ _
  have h4 : min j i ≤ i := Int.min_le_right _ _
  have hp := read_place hx
  have hm53 := read_small hx
  have z : ∀ (t : Bool) (u : Nat), signed t 0 u = 0 := fun t u => by unfold signed; cases t <;> simp
  have nz : ∀ (s : Bool) (u : Nat), signed s m u ≠ 0 := fun s u => by
    unfold signed
    have : m <<< u ≠ 0 := by rw [shl_pow]; exact Nat.mul_ne_zero hm (Nat.pos_iff_ne_zero.1 (Nat.two_pow_pos u))
    cases s <;> simp only [Bool.false_eq_true, if_false, if_true] <;> omega
  have sgn : ∀ (s : Bool) (u : Nat), decide (signed s m u < 0) = s := fun s u => by
    have h := nz s u
    unfold signed at h ⊢
    generalize m <<< u = A at *
    cases s
    · simp only [Bool.false_eq_true, if_false] at h ⊢
      rw [decide_eq_false]; omega
    · simp only [if_true] at h ⊢
      rw [decide_eq_true]; omega
  have na : ∀ (s : Bool) (u : Nat), (signed s m u).natAbs = m * 2 ^ u := fun s u => by
    unfold signed
    rw [shl_pow]
    generalize m * 2 ^ u = A
    cases s <;> simp
  have one : ∀ (s t : Bool), (Datum.number s m i).sum (.number t 0 j) = some (.number s (m * 2 ^ (i - min i j).toNat) (min i j)) := fun s t => by
    show some (Datum.number (if (signed s m (i - min i j).toNat + signed t 0 (j - min i j).toNat) = 0 then s && t else decide ((signed s m (i - min i j).toNat + signed t 0 (j - min i j).toNat) < 0)) (signed s m (i - min i j).toNat + signed t 0 (j - min i j).toNat).natAbs (min i j)) = _
    rw [z, Int.add_zero, if_neg (nz _ _), sgn, na]
  have two : ∀ (s t : Bool), (Datum.number t 0 j).sum (.number s m i) = some (.number s (m * 2 ^ (i - min j i).toNat) (min j i)) := fun s t => by
    show some (Datum.number (if (signed t 0 (j - min j i).toNat + signed s m (i - min j i).toNat) = 0 then t && s else decide ((signed t 0 (j - min j i).toNat + signed s m (i - min j i).toNat) < 0)) (signed t 0 (j - min j i).toNat + signed s m (i - min j i).toNat).natAbs (min j i)) = _
    rw [z, Int.zero_add, if_neg (nz _ _), sgn, na]
  have w1 : ∀ s : Bool, ∃ m' e', D.read (D.write (.number s (m * 2 ^ (i - min i j).toNat) (min i j))) = .number s m' e' ∧ mg m' e' = mg m i := fun s => by
    obtain ⟨m', e', r, v⟩ := write_exact (s := s) (u := (i - min i j).toNat) (e := min i j) hm53 (by omega) (.inr (by omega))
    exact ⟨m', e', r, by rw [v]; congr 1; omega⟩
  have w2 : ∀ s : Bool, ∃ m' e', D.read (D.write (.number s (m * 2 ^ (i - min j i).toNat) (min j i))) = .number s m' e' ∧ mg m' e' = mg m i := fun s => by
    obtain ⟨m', e', r, v⟩ := write_exact (s := s) (u := (i - min j i).toNat) (e := min j i) hm53 (by omega) (.inr (by omega))
    exact ⟨m', e', r, by rw [v]; congr 1; omega⟩
  refine ⟨?_, ?_, ?_, ?_⟩
  · obtain ⟨m', e', r, v⟩ := w1 s
    exact ⟨_, m', e', by show ((D.read x).sum (D.read y)).map D.write = _; rw [hx, hy, one]; rfl, r, v⟩
  · obtain ⟨m', e', r, v⟩ := w2 s
    exact ⟨_, m', e', by show ((D.read y).sum (D.read x)).map D.write = _; rw [hx, hy, two]; rfl, r, v⟩
  · obtain ⟨m', e', r, v⟩ := w1 s
    exact ⟨_, m', e', by show ((D.read x).sum (D.read y).opposite).map D.write = _; rw [hx, opp_read hy, one]; rfl, r, v⟩
  · obtain ⟨m', e', r, v⟩ := w2 (!s)
    exact ⟨_, m', e', by show ((D.read y).sum (D.read x).opposite).map D.write = _; rw [opp_read hx, hy, two]; rfl, r, v⟩
end Go.Sx

/- How near products, quotients and sums of floating numbers are to what they should be. -/
namespace Go.Sx
open Go Ieee
set_option linter.unusedVariables false
set_option linter.unusedSimpArgs false

/-- x is X but for the share d. -/
def Ap (d x X : Rat) : Prop := X * (1 - d) ≤ x ∧ x ≤ X * (1 + d)
theorem Ap.refl {x : Rat} {d : Rat} (hd : 0 ≤ d) (hx : 0 ≤ x) : Ap d x x := by
  have := Rat.mul_nonneg hx hd
  constructor <;> grind
theorem Ap.mono {d e x X : Rat} (h : Ap d x X) (hX : 0 ≤ X) (he : d ≤ e) : Ap e x X := by
  have := Rat.mul_nonneg hX (show 0 ≤ e - d by grind)
  obtain ⟨h1, h2⟩ := h
  constructor <;> grind
theorem Ap.nn {d x X : Rat} (h : Ap d x X) (hX : 0 ≤ X) (hd : d ≤ 1) : 0 ≤ x := by
  have := Rat.mul_nonneg hX (show 0 ≤ 1 - d by grind)
  have := h.1
  grind
theorem Ap.pos {d x X : Rat} (h : Ap d x X) (hX : 0 < X) (hd : d < 1) : 0 < x := by
  have := Rat.mul_pos hX (show 0 < 1 - d by grind)
  have := h.1
  grind
theorem Ap.trans {a b x y X : Rat} (h : Ap a x X) (k : Ap b y x) (hX : 0 ≤ X) (ha : 0 ≤ a) (hb : 0 ≤ b) (hb1 : b ≤ 1) (ha1 : a ≤ 1) : Ap (a + b + a * b) y X := by
  obtain ⟨h1, h2⟩ := h
  obtain ⟨k1, k2⟩ := k
  have m1 := Rat.mul_le_mul_of_nonneg_right h1 (show 0 ≤ 1 - b by grind)
  have m2 := Rat.mul_le_mul_of_nonneg_right h2 (show 0 ≤ 1 + b by grind)
  have m3 := Rat.mul_nonneg hX (Rat.mul_nonneg ha hb)
  constructor <;> grind
theorem Ap.mul {a b x y X Y : Rat} (h : Ap a x X) (k : Ap b y Y) (hX : 0 ≤ X) (hY : 0 ≤ Y) (ha : 0 ≤ a) (hb : 0 ≤ b) (hb1 : b ≤ 1) (ha1 : a ≤ 1) : Ap (a + b + a * b) (x * y) (X * Y) := by
  have hx := h.nn hX ha1
  have hy := k.nn hY hb1
  obtain ⟨h1, h2⟩ := h
  obtain ⟨k1, k2⟩ := k
  have hXY := Rat.mul_nonneg hX hY
  have z1 : 0 ≤ X * (1 - a) := Rat.mul_nonneg hX (by grind)
  have z2 : 0 ≤ Y * (1 - b) := Rat.mul_nonneg hY (by grind)
  have l1 : X * (1 - a) * (Y * (1 - b)) ≤ x * y := Rat.le_trans (Rat.mul_le_mul_of_nonneg_right h1 z2) (Rat.mul_le_mul_of_nonneg_left k1 hx)
  have l2 : x * y ≤ X * (1 + a) * (Y * (1 + b)) := Rat.le_trans (Rat.mul_le_mul_of_nonneg_right h2 hy) (Rat.mul_le_mul_of_nonneg_left k2 (Rat.mul_nonneg hX (by grind)))
  have m3 := Rat.mul_nonneg hXY (Rat.mul_nonneg ha hb)
  constructor <;> grind
/-- The rounding's share. -/
def uF : Rat := pw (-53)
theorem uF_nn : 0 ≤ uF := Rat.le_of_lt (pw_pos _)
theorem near_ap {s : Bool} {m : Nat} {e : Int} (hm : m ≠ 0) (h1 : -1000 ≤ m.log2 + e) (h2 : m.log2 + e ≤ 1000) : ∃ m' e', D.read (D.write (.number s m e)) = .number s m' e' ∧ m' ≠ 0 ∧ Ap uF (mg m' e') (mg m e) := by
  obtain ⟨m', e', r, hm', b1, b2⟩ := write_near (s := s) hm h1 h2
  refine ⟨m', e', r, hm', ?_⟩
  obtain ⟨l1, _⟩ := mg_log hm e
  have hp : pw (m.log2 + e - 53) ≤ mg m e * uF := by
    rw [show (m.log2 : Int) + e - 53 = (m.log2 + e) + (-53) by omega, pw_add]
    exact Rat.mul_le_mul_of_nonneg_right l1 uF_nn
  constructor <;> grind
/-- How great a number is, by its first digit. -/
theorem log_of {m : Nat} {e a b : Int} (hm : m ≠ 0) (h1 : pw a ≤ mg m e) (h2 : mg m e ≤ pw b) : a ≤ m.log2 + e ∧ m.log2 + e ≤ b := by
  obtain ⟨l1, l2⟩ := mg_log hm e
  constructor
  · have h : ¬ m.log2 + e + 1 ≤ a := fun hh => by
      have := pw_le hh
      grind
    omega
  · have h : ¬ b + 1 ≤ m.log2 + e := fun hh => by
      have := pw_le hh
      rw [pw_succ] at this
      have := pw_pos b
      grind
    omega
theorem mul_ap {x y : Nat} {s t : Bool} {m n : Nat} {i j a b c d : Int} (hx : D.read x = .number s m i) (hy : D.read y = .number t n j) (hm : m ≠ 0) (hn : n ≠ 0)
    (x1 : pw a ≤ mg m i) (x2 : mg m i ≤ pw b) (y1 : pw c ≤ mg n j) (y2 : mg n j ≤ pw d) (h1 : -1000 ≤ a + c) (h2 : b + d ≤ 1000) :
    ∃ w m' e', floatBits .mul .f64 x y = some w ∧ D.read w = .number (s ^^ t) m' e' ∧ m' ≠ 0 ∧ Ap uF (mg m' e') (mg m i * mg n j) := by
  have hmn : m * n ≠ 0 := Nat.mul_ne_zero hm hn
  have lo : pw (a + c) ≤ mg (m * n) (i + j) := by
    rw [mg_mul, pw_add]
    exact Rat.le_trans (Rat.mul_le_mul_of_nonneg_right x1 (Rat.le_of_lt (pw_pos c))) (Rat.mul_le_mul_of_nonneg_left y1 (mg_nn m i))
  have hi : mg (m * n) (i + j) ≤ pw (b + d) := by
    rw [mg_mul, pw_add]
    exact Rat.le_trans (Rat.mul_le_mul_of_nonneg_right x2 (mg_nn n j)) (Rat.mul_le_mul_of_nonneg_left y2 (Rat.le_of_lt (pw_pos b)))
  obtain ⟨l1, l2⟩ := log_of hmn lo hi
  obtain ⟨m', e', r, hm', ap⟩ := near_ap (s := s ^^ t) (e := i + j) hmn (by omega) (by omega)
  rw [mg_mul] at ap
  refine ⟨_, m', e', ?_, r, hm', ap⟩
  show ((D.read x).product (D.read y)).map D.write = _
  rw [hx, hy]
  rfl
/-- A quotient's digits. -/
theorem quot_ap {s t : Bool} {m n : Nat} {i j : Int} (hm : m < 2 ^ 53) (hm0 : m ≠ 0) (hn : n ≠ 0) : ∃ c e, (Datum.number s m i).quotient 54 (.number t n j) = some (.number (s ^^ t) c e) ∧ c ≠ 0 ∧ Ap uF (mg c e * mg n j) (mg m i) := by
  have e0 : (Datum.number s m i).quotient 54 (.number t n j) = some (.number (s ^^ t) (2 * ((m <<< (54 + n.log2 - m.log2)) / n) + ((m <<< (54 + n.log2 - m.log2)) % n != 0).toNat) (i - j - ((54 + n.log2 - m.log2 : Nat) : Int) - 1)) := by
    show (if n = 0 then _ else _) = _
    rw [if_neg hn]
  have hlm : m.log2 < 53 := (Nat.log2_lt hm0).2 hm
  obtain ⟨more, hmore⟩ : ∃ more, 54 + n.log2 - m.log2 = more := ⟨_, rfl⟩
  have hdm := Nat.div_add_mod (m <<< more) n
  have hml := Nat.mod_lt (m <<< more) (Nat.pos_iff_ne_zero.2 hn)
  have hsh : m <<< more = m * 2 ^ more := Nat.shiftLeft_eq _ _
  have hc : (m <<< more) % n = 0 ∧ ((m <<< more) % n != 0).toNat = 0 ∨ ((m <<< more) % n != 0).toNat = 1 := by
    by_cases h : (m <<< more) % n = 0
    · left; rw [h]; exact ⟨rfl, rfl⟩
    · right
      have : ((m <<< more) % n != 0) = true := by simpa using h
      rw [this]; rfl
  -- the dividend is great
  have hbig : n * 2 ^ 53 ≤ m * 2 ^ more := by
    have h1 : n < 2 ^ (n.log2 + 1) := Nat.lt_log2_self
    have h2 : 2 ^ m.log2 ≤ m := Nat.log2_self_le hm0
    have h3 : 2 ^ m.log2 * 2 ^ more ≤ m * 2 ^ more := Nat.mul_le_mul_right _ h2
    rw [← Nat.pow_add] at h3
    have h4 : n * 2 ^ 53 ≤ 2 ^ (n.log2 + 1) * 2 ^ 53 := Nat.mul_le_mul_right _ (Nat.le_of_lt h1)
    rw [← Nat.pow_add] at h4
    have h5 : 2 ^ (n.log2 + 1 + 53) ≤ 2 ^ (m.log2 + more) := Nat.pow_le_pow_right (by omega) (by omega)
    omega
  rw [hmore] at e0
  refine ⟨_, _, e0, ?_, ?_⟩
  all_goals
    generalize hq : (m <<< more) / n = q at *
    generalize hr : (m <<< more) % n = r at *
    generalize hcc : (r != 0).toNat = c at *
  · intro h0
    have hq0 : q = 0 := by omega
    subst hq0
    have h53 : (2 : Nat) ^ 53 = 9007199254740992 := by decide
    rw [h53] at hbig
    have hz : n * 0 = 0 := Nat.mul_zero n
    omega
  · have e1 : mg (2 * q + c) (i - j - (more : Int) - 1) * mg n j = mg ((2 * q + c) * n) (i - (more : Int) - 1) := by
      rw [← mg_mul]
      congr 1
      omega
    rw [e1]
    have hA : (2 * q + c) * n ≤ 2 * (m * 2 ^ more) + n ∧ 2 * (m * 2 ^ more) ≤ (2 * q + c) * n + n := by
      rw [Nat.add_mul, Nat.mul_assoc]
      have : n * q = q * n := Nat.mul_comm _ _
      rcases hc with ⟨h1, h2⟩ | h
      · subst h1; subst h2; omega
      · subst h; omega
    have e2 : mg (2 * (m * 2 ^ more)) (i - (more : Int) - 1) = mg m i := by
      unfold mg
      rw [Rat.natCast_mul, Rat.natCast_mul, ← pw_nat]
      have : pw i = 2 * (pw (more : Int) * pw (i - (more : Int) - 1)) := by rw [← pw_add, ← pw_succ]; congr 1; omega
      rw [this]
      have h2 : ((2 : Nat) : Rat) = 2 := rfl
      rw [h2]
      grind
    have h1 := mg_mono hA.1 (i - (more : Int) - 1)
    have h2 := mg_mono hA.2 (i - (more : Int) - 1)
    rw [mg_add, e2] at h1
    rw [e2, mg_add] at h2
    have h3 : mg n (i - (more : Int) - 1) ≤ mg m i * uF := by
      have h4 := mg_mono hbig (i - (more : Int) - 1)
      have e3 : mg (n * 2 ^ 53) (i - (more : Int) - 1) * uF = mg n (i - (more : Int) - 1) := by
        unfold mg uF
        rw [Rat.natCast_mul, ← pw_nat]
        have : pw ((53 : Nat) : Int) * pw (-53) = 1 := by rw [← pw_add]; exact pw_zero
        grind
      have e4 : mg (m * 2 ^ more) (i - (more : Int) - 1) * uF ≤ mg m i * uF := by
        refine Rat.mul_le_mul_of_nonneg_right ?_ uF_nn
        rw [← e2]
        exact mg_mono (by omega) _
      have h5 := Rat.mul_le_mul_of_nonneg_right h4 uF_nn
      rw [e3] at h5
      exact Rat.le_trans h5 e4
    constructor <;> grind
end Go.Sx

/- Clear films: every number on the way is real or imaginary, and near to what it should be. -/
namespace Go.Sx
open Go Ieee
set_option linter.unusedVariables false
set_option linter.unusedSimpArgs false

/-- A zero of some sign. -/
def Zr (w : Nat) : Prop := ∃ s e, D.read w = .number s 0 e
theorem write_zero (s : Bool) (e : Int) : Zr (D.write (.number s 0 e)) := ⟨s, _, read_sub s (by decide)⟩
theorem mul_zero_l {x y : Nat} {t : Bool} {n : Nat} {j : Int} (hx : Zr x) (hy : D.read y = .number t n j) : ∃ w, floatBits .mul .f64 x y = some w ∧ Zr w := by
  obtain ⟨s, e, hx⟩ := hx
  refine ⟨D.write (.number (s ^^ t) (0 * n) (e + j)), ?_, by rw [Nat.zero_mul]; exact write_zero _ _⟩
  show ((D.read x).product (D.read y)).map D.write = _
  rw [hx, hy]
  rfl
theorem mul_zero_r {x y : Nat} {t : Bool} {n : Nat} {j : Int} (hx : Zr x) (hy : D.read y = .number t n j) : ∃ w, floatBits .mul .f64 y x = some w ∧ Zr w := by
  obtain ⟨s, e, hx⟩ := hx
  refine ⟨D.write (.number (t ^^ s) (n * 0) (j + e)), ?_, by rw [Nat.mul_zero]; exact write_zero _ _⟩
  show ((D.read y).product (D.read x)).map D.write = _
  rw [hx, hy]
  rfl
theorem mul_zz {x y : Nat} (hx : Zr x) (hy : Zr y) : ∃ w, floatBits .mul .f64 x y = some w ∧ Zr w := by
  obtain ⟨t, j, hy⟩ := hy
  exact mul_zero_l hx hy
theorem signed_zero (t : Bool) (u : Nat) : signed t 0 u = 0 := by unfold signed; cases t <;> simp
theorem sum_zz {s t : Bool} {i j : Int} : ∃ u e, (Datum.number s 0 i).sum (.number t 0 j) = some (.number u 0 e) := by
  refine ⟨s && t, min i j, ?_⟩
  show some (Datum.number (if (signed s 0 _ + signed t 0 _) = 0 then s && t else _) (signed s 0 _ + signed t 0 _).natAbs (min i j)) = _
  rw [signed_zero, signed_zero]
  rfl
theorem add_zz {x y : Nat} (hx : Zr x) (hy : Zr y) : (∃ w, floatBits .add .f64 x y = some w ∧ Zr w) ∧ (∃ w, floatBits .sub .f64 x y = some w ∧ Zr w) := by
  obtain ⟨s, i, hx⟩ := hx
  obtain ⟨t, j, hy⟩ := hy
  constructor
  · obtain ⟨u, e, h⟩ := sum_zz (s := s) (t := t) (i := i) (j := j)
    refine ⟨_, ?_, write_zero u e⟩
    show ((D.read x).sum (D.read y)).map D.write = _
    rw [hx, hy, h]
    rfl
  · obtain ⟨u, e, h⟩ := sum_zz (s := s) (t := !t) (i := i) (j := j)
    refine ⟨_, ?_, write_zero u e⟩
    show ((D.read x).sum (D.read y).opposite).map D.write = _
    rw [hx, opp_read hy, h]
    rfl
theorem div_zero_l {x y : Nat} {t : Bool} {n : Nat} {j : Int} (hx : Zr x) (hy : D.read y = .number t n j) (hn : n ≠ 0) : ∃ w, floatBits .quo .f64 x y = some w ∧ Zr w := by
  obtain ⟨s, e, hx⟩ := hx
  obtain ⟨c, e', q, l⟩ := quot_facts (s := s) (t := t) (m := 0) (i := e) (j := j) (by decide) hn
  have hc : c = 0 := by
    rw [mg_zero] at l
    rcases Nat.eq_zero_or_pos c with h | h
    · exact h
    · have h1 := mg_pos (Nat.pos_iff_ne_zero.1 h) e'
      have h2 := mg_pos hn j
      have := Rat.mul_pos h1 h2
      grind
  subst hc
  refine ⟨_, ?_, write_zero (s ^^ t) e'⟩
  show ((D.read x).quotient 54 (D.read y)).map D.write = _
  rw [hx, hy, q]
  rfl
/-- Times one. -/
def one64 : Nat := 4607182418800017408
theorem one_read : D.read one64 = .number false (2 ^ 52) (-52) := by decide +kernel
theorem mul_one64 {y : Nat} {t : Bool} {n : Nat} {j : Int} (hy : D.read y = .number t n j) (hn : n ≠ 0) (hL : (n.log2 : Int) + j ≤ 1000) : ∃ w m' e', floatBits .mul .f64 one64 y = some w ∧ D.read w = .number t m' e' ∧ mg m' e' = mg n j := by
  have hp := read_place hy
  obtain ⟨m', e', r, v⟩ := write_exact (s := t) (m := n) (u := 52) (e := j - 52) (read_small hy) (by omega) (.inr (by omega))
  refine ⟨D.write (.number t (n * 2 ^ 52) (j - 52)), m', e', ?_, r, by rw [v]; congr 1; omega⟩
  show ((D.read one64).product (D.read y)).map D.write = _
  rw [one_read, hy]
  show some (D.write (.number (false ^^ t) (2 ^ 52 * n) (-52 + j))) = _
  rw [Bool.false_xor, Nat.mul_comm, show (-52 : Int) + j = j - 52 by omega]
theorem div_ap {x y : Nat} {s t : Bool} {m n : Nat} {i j a b c d : Int} (hx : D.read x = .number s m i) (hy : D.read y = .number t n j) (hm : m ≠ 0) (hn : n ≠ 0)
    (x1 : pw a ≤ mg m i) (x2 : mg m i ≤ pw b) (y1 : pw c ≤ mg n j) (y2 : mg n j ≤ pw d) (h1 : -990 ≤ a - d) (h2 : b - c ≤ 990) :
    ∃ w m' e', floatBits .quo .f64 x y = some w ∧ D.read w = .number (s ^^ t) m' e' ∧ m' ≠ 0 ∧ Ap (uF + uF + uF * uF) (mg m' e' * mg n j) (mg m i) := by
  obtain ⟨q, e, hq, hq0, ap⟩ := quot_ap (s := s) (t := t) (i := i) (j := j) (read_small hx) hm hn
  have hu : uF ≤ 1 / 2 := by
    have h : uF ≤ pw (-1) := pw_le (by omega)
    have e1 : pw (-1) = 1 / 2 := by
      have : 2 * pw (-1) = 1 := by rw [← pw_succ]; exact pw_zero
      grind
    rw [e1] at h
    exact h
  have hmi := mg_pos hm i
  have hnj := mg_pos hn j
  have lo : pw (a - d - 1) ≤ mg q e := by
    have h3 : pw (a - d - 1) * pw d ≤ mg q e * pw d := by
      rw [← pw_add, show a - d - 1 + d = a - 1 by omega]
      have h4 : mg q e * mg n j ≤ mg q e * pw d := Rat.mul_le_mul_of_nonneg_left y2 (mg_nn q e)
      have h5 : mg m i * (1 / 2) ≤ mg m i * (1 - uF) := Rat.mul_le_mul_of_nonneg_left (by grind) (Rat.le_of_lt hmi)
      have h6 := ap.1
      have h7 : pw a = 2 * pw (a - 1) := by rw [← pw_succ]; congr 1; omega
      grind
    exact Rat.le_of_mul_le_mul_right h3 (pw_pos d)
  have hi : mg q e ≤ pw (b - c + 1) := by
    have h3 : mg q e * pw c ≤ pw (b - c + 1) * pw c := by
      rw [← pw_add, show b - c + 1 + c = b + 1 by omega, pw_succ]
      have h4 : mg q e * pw c ≤ mg q e * mg n j := Rat.mul_le_mul_of_nonneg_left y1 (mg_nn q e)
      have h5 : mg m i * (1 + uF) ≤ mg m i * 2 := Rat.mul_le_mul_of_nonneg_left (by grind) (Rat.le_of_lt hmi)
      have h6 := ap.2
      grind
    exact Rat.le_of_mul_le_mul_right h3 (pw_pos c)
  obtain ⟨l1, l2⟩ := log_of hq0 lo hi
  obtain ⟨m', e', r, hm', ap2⟩ := near_ap (s := s ^^ t) (e := e) hq0 (by omega) (by omega)
  refine ⟨D.write (.number (s ^^ t) q e), m', e', ?_, r, hm', ?_⟩
  · show ((D.read x).quotient 54 (D.read y)).map D.write = _
    rw [hx, hy, hq]
    rfl
  · have h3 : Ap uF (mg m' e' * mg n j) (mg q e * mg n j) := by
      obtain ⟨z1, z2⟩ := ap2
      have w1 := Rat.mul_le_mul_of_nonneg_right z1 (Rat.le_of_lt hnj)
      have w2 := Rat.mul_le_mul_of_nonneg_right z2 (Rat.le_of_lt hnj)
      constructor <;> grind
    exact Ap.trans ap h3 (Rat.le_of_lt hmi) uF_nn uF_nn (by grind) (by grind)
end Go.Sx

/- Steps of clear films: real or imaginary, and near. -/
namespace Go.Sx
open Go Ieee
set_option linter.unusedVariables false
set_option linter.unusedSimpArgs false

/-- So many small shares. -/
def Eu (k : Nat) : Rat := (k : Rat) * pw (-44)
theorem Eu_nn (k : Nat) : 0 ≤ Eu k := Rat.mul_nonneg (by exact_mod_cast Nat.zero_le k) (Rat.le_of_lt (pw_pos _))
theorem Eu_le {k : Nat} (h : k ≤ 1024) : Eu k ≤ pw (-34) := by
  have h1 : (k : Rat) ≤ ((2 ^ 10 : Nat) : Rat) := by
    have : k ≤ 2 ^ 10 := by omega
    exact_mod_cast this
  have h2 := Rat.mul_le_mul_of_nonneg_right h1 (Rat.le_of_lt (pw_pos (-44)))
  rw [← pw_nat, ← pw_add] at h2
  exact h2
theorem pw34 : pw (-34) ≤ 1 / 1000 := by
  have h : pw (-34) ≤ pw (-10) := pw_le (by omega)
  have e : pw (-10) * 1024 = 1 := by
    have : pw ((10 : Nat) : Int) = 1024 := by rw [pw_nat]; rfl
    rw [← this, ← pw_add]
    exact pw_zero
  grind
theorem Eu_add (a b : Nat) : Eu (a + b) = Eu a + Eu b := by
  unfold Eu
  rw [Rat.natCast_add, Rat.add_mul]
theorem Eu_mul {a b : Nat} (ha : a ≤ 1024) (hb : b ≤ 1024) : Eu a * Eu b ≤ Eu 1 := by
  have h1 := Rat.mul_le_mul_of_nonneg_right (Eu_le ha) (Eu_nn b)
  have h2 := Rat.mul_le_mul_of_nonneg_left (Eu_le hb) (Rat.le_of_lt (pw_pos (-34)))
  rw [← pw_add] at h2
  have h3 : pw (-34 + -34) ≤ pw (-44) := pw_le (by omega)
  have h4 : Eu 1 = pw (-44) := by unfold Eu; rw [show ((1 : Nat) : Rat) = 1 from rfl, Rat.one_mul]
  rw [h4]
  exact Rat.le_trans h1 (Rat.le_trans h2 h3)
theorem uF_le : uF + uF + uF * uF ≤ Eu 1 ∧ uF ≤ Eu 1 := by
  have h4 : Eu 1 = pw (-44) := by unfold Eu; rw [show ((1 : Nat) : Rat) = 1 from rfl, Rat.one_mul]
  have h1 : uF * uF ≤ uF := by
    have h : uF ≤ 1 := by rw [← pw_zero]; exact pw_le (by omega)
    have := Rat.mul_le_mul_of_nonneg_left h uF_nn
    rw [Rat.mul_one] at this
    exact this
  have h2 : 2 * (2 * uF) = pw (-51) := by
    unfold uF
    rw [← pw_succ, ← pw_succ]
    rfl
  have h3 : pw (-51) ≤ pw (-44) := pw_le (by omega)
  rw [h4]
  have := uF_nn
  constructor <;> grind
/-- The main part and the other part. -/
def mainP (r : Bool) (z : CF) : Nat := if r then z.2 else z.1
def othP (r : Bool) (z : CF) : Nat := if r then z.1 else z.2
/-- A real (or imaginary) number of such a sign, near to X. -/
def Sh' (r σ : Bool) (X : Rat) (k : Nat) (z : CF) : Prop := (∃ m e, D.read (mainP r z) = .number σ m e ∧ m ≠ 0 ∧ Ap (Eu k) (mg m e) X) ∧ Zr (othP r z)
/-- How great X is. -/
def Rg (B : Int) (X : Rat) : Prop := pw (-B) ≤ X ∧ X ≤ pw B
theorem Rg.pos {B : Int} {X : Rat} (h : Rg B X) : 0 < X := by have := pw_pos (-B); have := h.1; grind
theorem rg_mg {B : Int} {X x : Rat} {k : Nat} (hX : Rg B X) (hk : k ≤ 1024) (h : Ap (Eu k) x X) : pw (-B - 1) ≤ x ∧ x ≤ pw (B + 1) := by
  obtain ⟨r1, r2⟩ := hX
  obtain ⟨h1, h2⟩ := h
  have e := Eu_le hk
  have e2 := pw34
  have hX0 : 0 ≤ X := by have := pw_pos (-B); grind
  have a1 := Rat.mul_le_mul_of_nonneg_left (show (1 : Rat) / 2 ≤ 1 - Eu k by grind) hX0
  have a2 := Rat.mul_le_mul_of_nonneg_left (show 1 + Eu k ≤ (2 : Rat) by grind) hX0
  have b1 : pw (-B) = 2 * pw (-B - 1) := by rw [← pw_succ]; congr 1; omega
  have b2 : pw (B + 1) = 2 * pw B := pw_succ B
  constructor <;> grind
theorem rg_log {B : Int} {X : Rat} {k : Nat} {m : Nat} {e : Int} (hm : m ≠ 0) (hX : Rg B X) (hk : k ≤ 1024) (h : Ap (Eu k) (mg m e) X) (hB : B ≤ 900) : (m.log2 : Int) + e ≤ 1000 := by
  obtain ⟨_, h2⟩ := rg_mg hX hk h
  have := (log_of (a := m.log2 + e) hm (mg_log hm e).1 h2).2
  omega
theorem zr0 : Zr 0 := ⟨false, _, read_sub false (by decide)⟩
theorem wMul_of {x y : CF} {re im : Nat} (h : cMulBits x.1 x.2 y.1 y.2 = some (re, im)) : wMul x y = (re, im) := by unfold wMul; rw [h]; rfl
theorem wQuo_of {x y : CF} {re im : Nat} (h : cQuoBits x.1 x.2 y.1 y.2 = some (re, im)) : wQuo x y = (re, im) := by unfold wQuo; rw [h]; rfl
theorem cmul_of {a b c d ac bd re ad bc im : Nat} (h1 : floatBits .mul .f64 a c = some ac) (h2 : floatBits .mul .f64 b d = some bd) (h3 : floatBits .sub .f64 ac bd = some re) (h4 : floatBits .mul .f64 a d = some ad) (h5 : floatBits .mul .f64 b c = some bc) (h6 : floatBits .add .f64 ad bc = some im) :
    cMulBits a b c d = some (re, im) := by
  unfold cMulBits
  rw [h1, h2, Option.bind_some, Option.bind_some, h3, Option.bind_some, h4, h5, Option.bind_some, Option.bind_some, h6]
  rfl
/-- Times i. -/
theorem i_sh {r σ : Bool} {X : Rat} {k : Nat} {B : Int} {z : CF} (h : Sh' r σ X k z) (hX : Rg B X) (hk : k ≤ 1024) (hB : B ≤ 900) : cMulBits iF.1 iF.2 z.1 z.2 = some (wMul iF z) ∧ Sh' (!r) (σ ^^ r) X k (wMul iF z) := by
  obtain ⟨⟨m, e, hr, hm, ap⟩, hz⟩ := h
  have hL := rg_log hm hX hk ap hB
  have h1 : Zr iF.1 := zr0
  have h2 : D.read iF.2 = .number false (2 ^ 52) (-52) := one_read
  cases r with
  | false =>
    have hr : D.read z.1 = .number σ m e := hr
    have hz : Zr z.2 := hz
    obtain ⟨ac, e1, z1⟩ := mul_zero_l h1 hr
    obtain ⟨bd, e2, z2⟩ := mul_zero_r hz h2
    obtain ⟨re, e3, z3⟩ := (add_zz z1 z2).2
    obtain ⟨ad, e4, z4⟩ := mul_zz h1 hz
    obtain ⟨bc, m5, e5', e5, r5, v5⟩ := mul_one64 hr hm hL
    have hm5 : m5 ≠ 0 := fun h => by subst h; rw [mg_zero] at v5; have := mg_pos hm e; grind
    have hL5 := rg_log (k := k) hm5 hX hk (by rw [v5]; exact ap) hB
    obtain ⟨s4, e4', r4⟩ := z4
    obtain ⟨im, m6, e6', e6, r6, v6⟩ := (add_zero_nm r5 r4 hm5 hL5).2.1
    have hc := cmul_of e1 e2 e3 e4 e5 e6
    rw [wMul_of hc]
    refine ⟨hc, ⟨m6, e6', by rw [Bool.xor_false]; exact r6, ?_, by rw [v6, v5]; exact ap⟩, z3⟩
    intro h; subst h; rw [mg_zero] at v6; have := mg_pos hm5 e5'; grind
  | true =>
    have hr : D.read z.2 = .number σ m e := hr
    have hz : Zr z.1 := hz
    obtain ⟨ac, e1, z1⟩ := mul_zz h1 hz
    obtain ⟨bd, m5, e5', e2, r5, v5⟩ := mul_one64 hr hm hL
    have hm5 : m5 ≠ 0 := fun h => by subst h; rw [mg_zero] at v5; have := mg_pos hm e; grind
    have hL5 := rg_log (k := k) hm5 hX hk (by rw [v5]; exact ap) hB
    obtain ⟨s1, e1', r1⟩ := z1
    obtain ⟨re, m6, e6', e3, r6, v6⟩ := (add_zero_nm r5 r1 hm5 hL5).2.2.2
    obtain ⟨ad, e4, z4⟩ := mul_zero_l h1 hr
    obtain ⟨bc, e5, z5⟩ := mul_zero_r hz h2
    obtain ⟨im, e6, z6⟩ := (add_zz z4 z5).1
    have hc := cmul_of e1 e2 e3 e4 e5 e6
    rw [wMul_of hc]
    refine ⟨hc, ⟨m6, e6', by rw [Bool.xor_true]; exact r6, ?_, by rw [v6, v5]; exact ap⟩, z6⟩
    intro h; subst h; rw [mg_zero] at v6; have := mg_pos hm5 e5'; grind
/-- Products' shares. -/
theorem ap_prod {x y X Y w : Rat} {k l : Nat} (hx : Ap (Eu k) x X) (hy : Ap (Eu l) y Y) (hX : 0 ≤ X) (hY : 0 ≤ Y) (hk : k ≤ 500) (hl : l ≤ 500) (hw : Ap uF w (x * y)) : Ap (Eu (k + l + 3)) w (X * Y) := by
  have e1 := Eu_le (show k ≤ 1024 by omega)
  have e2 := Eu_le (show l ≤ 1024 by omega)
  have p := pw34
  have h1 := hx.mul hy hX hY (Eu_nn k) (Eu_nn l) (by grind) (by grind)
  have h2 := Eu_mul (show k ≤ 1024 by omega) (show l ≤ 1024 by omega)
  have hXY := Rat.mul_nonneg hX hY
  have h3 : Ap (Eu (k + l + 1)) (x * y) (X * Y) := h1.mono hXY (by rw [Eu_add, Eu_add]; grind)
  have e3 := Eu_le (show k + l + 1 ≤ 1024 by omega)
  have e4 := Eu_le (show 1 ≤ 1024 by omega)
  have hw2 : Ap (Eu 1) w (x * y) := hw.mono (h3.nn hXY (by grind)) uF_le.2
  have h4 := h3.trans hw2 hXY (Eu_nn _) (Eu_nn _) (by grind) (by grind)
  have h5 := Eu_mul (show k + l + 1 ≤ 1024 by omega) (show 1 ≤ 1024 by omega)
  have e9 : Eu (k + l + 3) = Eu (k + l + 1) + Eu 1 + Eu 1 := by rw [show k + l + 3 = (k + l + 1) + 1 + 1 by omega, Eu_add (k + l + 1 + 1) 1, Eu_add (k + l + 1) 1]
  exact h4.mono hXY (by rw [e9]; grind)
/-- Quotients' shares. -/
theorem ap_quot {x n w X N : Rat} {k l : Nat} (hx : Ap (Eu k) x X) (hn : Ap (Eu l) n N) (hX : 0 ≤ X) (hN : 0 < N) (hk : k ≤ 400) (hl : l ≤ 400) (hw : Ap (uF + uF + uF * uF) (w * n) x) : Ap (Eu (k + l + 4)) w (X / N) := by
  have p := pw34
  have ek := Eu_le (show k ≤ 1024 by omega)
  have el := Eu_le (show l ≤ 1024 by omega)
  have e1 := Eu_le (show 1 ≤ 1024 by omega)
  have hx0 := hx.nn hX (by grind)
  have hw2 : Ap (Eu 1) (w * n) x := hw.mono hx0 uF_le.1
  have h4 := hx.trans hw2 hX (Eu_nn _) (Eu_nn _) (by grind) (by grind)
  have h5 := Eu_mul (show k ≤ 1024 by omega) (show 1 ≤ 1024 by omega)
  have h6 : Ap (Eu (k + 2)) (w * n) X := h4.mono hX (by rw [show k + 2 = k + 1 + 1 by omega, Eu_add, Eu_add k 1]; grind)
  have hn0 : 0 < n := hn.pos hN (by grind)
  have ek2 := Eu_le (show k + 2 ≤ 1024 by omega)
  have ed := Eu_le (show k + l + 4 ≤ 1024 by omega)
  have m1 := Eu_mul (show l ≤ 1024 by omega) (show k + l + 4 ≤ 1024 by omega)
  have dd : Eu (k + l + 4) = Eu (k + 2) + Eu l + Eu 1 + Eu 1 := by rw [show k + l + 4 = (k + 2) + l + 1 + 1 by omega, Eu_add, Eu_add (k + 2 + l) 1, Eu_add (k + 2) l]
  have hY : 0 ≤ X / N := by rw [Rat.div_def]; exact Rat.mul_nonneg hX (Rat.le_of_lt (Rat.inv_pos.2 hN))
  have hXN : X / N * N = X := by grind
  generalize X / N = Y at *
  have n0 := Eu_nn 1
  have nl := Eu_nn l
  have nd := Eu_nn (k + l + 4)
  have nk := Eu_nn (k + 2)
  generalize Eu (k + l + 4) = d at *
  generalize Eu (k + 2) = c at *
  generalize Eu l = b at *
  generalize Eu 1 = o at *
  obtain ⟨g1, g2⟩ := h6
  obtain ⟨f1, f2⟩ := hn
  have hYN := Rat.mul_nonneg hY (Rat.le_of_lt hN)
  constructor
  · refine Rat.le_of_mul_le_mul_right (c := n) ?_ hn0
    -- Y (1 - d) n <= Y N (1 - d)(1 + b) <= X (1 - c) <= w n
    have a1 : Y * (1 - d) * n ≤ Y * (1 - d) * (N * (1 + b)) := Rat.mul_le_mul_of_nonneg_left f2 (Rat.mul_nonneg hY (by grind))
    have a2 : (1 - d) * (1 + b) ≤ 1 - c := by
      have := Rat.mul_nonneg nd nl
      grind
    have a3 := Rat.mul_le_mul_of_nonneg_left a2 hYN
    have a4 : Y * (1 - d) * (N * (1 + b)) = Y * N * ((1 - d) * (1 + b)) := by grind
    rw [a4] at a1
    rw [hXN] at a1 a3
    exact Rat.le_trans a1 (Rat.le_trans a3 g1)
  · refine Rat.le_of_mul_le_mul_right (c := n) ?_ hn0
    have a1 : Y * (1 + d) * (N * (1 - b)) ≤ Y * (1 + d) * n := Rat.mul_le_mul_of_nonneg_left f1 (Rat.mul_nonneg hY (by grind))
    have a2 : 1 + c ≤ (1 + d) * (1 - b) := by grind
    have a3 := Rat.mul_le_mul_of_nonneg_left a2 hYN
    have a4 : Y * (1 + d) * (N * (1 - b)) = Y * N * ((1 + d) * (1 - b)) := by grind
    rw [a4] at a1
    rw [hXN] at a1 a3
    exact Rat.le_trans g2 (Rat.le_trans a3 a1)
end Go.Sx

/- Clear films, layer by layer. -/
namespace Go.Sx
open Go Ieee
set_option linter.unusedVariables false
set_option linter.unusedSimpArgs false

theorem cquo_of {a b c d ratio rd denom br n1 e ar n2 f : Nat} (hge : absGe c d = true) (h1 : floatBits .quo .f64 d c = some ratio) (h2 : floatBits .mul .f64 ratio d = some rd) (h3 : floatBits .add .f64 c rd = some denom)
    (h4 : floatBits .mul .f64 b ratio = some br) (h5 : floatBits .add .f64 a br = some n1) (h6 : floatBits .quo .f64 n1 denom = some e) (h7 : floatBits .mul .f64 a ratio = some ar) (h8 : floatBits .sub .f64 b ar = some n2) (h9 : floatBits .quo .f64 n2 denom = some f)
    (hn : Op.Complex.isNaN e = false) : cQuoBits a b c d = some (e, f) := by
  unfold cQuoBits
  simp only [hge, if_true, h1, h2, h3, h4, h5, h6, h7, h8, h9, Option.bind_some, hn, Bool.false_and, Bool.not_false]
theorem zr_notNaN {w : Nat} (h : Zr w) : Op.Complex.isNaN w = false := by
  obtain ⟨s, e, r⟩ := h
  exact fin_notNaN r
theorem mgnz {m m' : Nat} {e e' : Int} (hm : m ≠ 0) (v : mg m' e' = mg m e) : m' ≠ 0 := fun h => by
  subst h
  rw [mg_zero] at v
  have := mg_pos hm e
  grind
/-- Over a real number that is more than nothing. -/
theorem quo_sh {r σ : Bool} {X N : Rat} {k l : Nat} {B C : Int} {z n : CF} (h : Sh' r σ X k z) (hX : Rg B X) (hk : k ≤ 400) (hB : B ≤ 400) (hn : Sh' false false N l n) (hN : Rg C N) (hl : l ≤ 400) (hC : C ≤ 400) (hB0 : 0 ≤ B) (hC0 : 0 ≤ C) :
    cQuoBits z.1 z.2 n.1 n.2 = some (wQuo z n) ∧ Sh' r σ (X / N) (k + l + 4) (wQuo z n) := by
  obtain ⟨⟨mN, eN, hnr, hnm, nap⟩, hnz⟩ := hn
  have hnr : D.read n.1 = .number false mN eN := hnr
  have hnz : Zr n.2 := hnz
  have hge : absGe n.1 n.2 = true := by
    cases hg : absGe n.1 n.2 with
    | true => rfl
    | false =>
      obtain ⟨s, e, hz⟩ := hnz
      have h1 := (absGe_facts hnr hz).2 hg
      rw [mg_zero] at h1
      have := mg_pos hnm eN
      grind
  obtain ⟨ratio, f1, z1⟩ := div_zero_l hnz hnr hnm
  obtain ⟨rd, f2, z2⟩ := mul_zz z1 hnz
  obtain ⟨s2, e2, r2⟩ := z2
  obtain ⟨denom, md, ed, f3, rd', vd⟩ := (add_zero_nm hnr r2 hnm (rg_log hnm hN (by omega) nap (by omega))).1
  have hdm := mgnz hnm vd
  obtain ⟨n1, n2⟩ := rg_mg hN (show l ≤ 1024 by omega) nap
  rw [← vd] at nap n1 n2
  obtain ⟨⟨m, e, hr, hm, ap⟩, hz⟩ := h
  obtain ⟨x1, x2⟩ := rg_mg hX (show k ≤ 1024 by omega) ap
  have hL := rg_log hm hX (by omega) ap (by omega)
  cases r with
  | false =>
    have hr : D.read z.1 = .number σ m e := hr
    have hz : Zr z.2 := hz
    obtain ⟨br, g1, y1⟩ := mul_zz hz z1
    obtain ⟨s3, e3, r3⟩ := y1
    obtain ⟨nn1, m3, e3', g2, r4, v4⟩ := (add_zero_nm hr r3 hm hL).1
    have hm3 := mgnz hm v4
    rw [← v4] at x1 x2 ap
    obtain ⟨q, mq, eq, g3, rq, hmq, apq⟩ := div_ap r4 rd' hm3 hdm x1 x2 n1 n2 (by omega) (by omega)
    obtain ⟨ar, g4, y4⟩ := mul_zero_r z1 hr
    obtain ⟨nn2, g5, y5⟩ := (add_zz hz y4).2
    obtain ⟨f, g6, y6⟩ := div_zero_l y5 rd' hdm
    have hc := cquo_of hge f1 f2 f3 g1 g2 g3 g4 g5 g6 (fin_notNaN rq)
    rw [wQuo_of hc]
    exact ⟨hc, ⟨mq, eq, by rw [Bool.xor_false] at rq; exact rq, hmq, ap_quot ap nap (Rat.le_of_lt hX.pos) hN.pos hk hl apq⟩, y6⟩
  | true =>
    have hr : D.read z.2 = .number σ m e := hr
    have hz : Zr z.1 := hz
    obtain ⟨br, g1, y1⟩ := mul_zero_r z1 hr
    obtain ⟨nn1, g2, y2⟩ := (add_zz hz y1).1
    obtain ⟨q, g3, y3⟩ := div_zero_l y2 rd' hdm
    obtain ⟨ar, g4, y4⟩ := mul_zz hz z1
    obtain ⟨s3, e3, r3⟩ := y4
    obtain ⟨nn2, m3, e3', g5, r4, v4⟩ := (add_zero_nm hr r3 hm hL).2.2.1
    have hm3 := mgnz hm v4
    rw [← v4] at x1 x2 ap
    obtain ⟨f, mq, eq, g6, rq, hmq, apq⟩ := div_ap r4 rd' hm3 hdm x1 x2 n1 n2 (by omega) (by omega)
    have hc := cquo_of hge f1 f2 f3 g1 g2 g3 g4 g5 g6 (zr_notNaN y3)
    rw [wQuo_of hc]
    exact ⟨hc, ⟨mq, eq, by rw [Bool.xor_false] at rq; exact rq, hmq, ap_quot ap nap (Rat.le_of_lt hX.pos) hN.pos hk hl apq⟩, y3⟩
/-- Times a real or an imaginary number that is more than nothing. -/
theorem mul_sh {q r σ : Bool} {X N : Rat} {k l : Nat} {B C : Int} {z n : CF} (h : Sh' r σ X k z) (hX : Rg B X) (hk : k ≤ 400) (hB : B ≤ 400) (hn : Sh' q false N l n) (hN : Rg C N) (hl : l ≤ 400) (hC : C ≤ 400) (hB0 : 0 ≤ B) (hC0 : 0 ≤ C) :
    cMulBits n.1 n.2 z.1 z.2 = some (wMul n z) ∧ Sh' (q ^^ r) (σ ^^ (q && r)) (N * X) (l + k + 3) (wMul n z) := by
  obtain ⟨⟨mN, eN, hnr, hnm, nap⟩, hnz⟩ := hn
  obtain ⟨n1, n2⟩ := rg_mg hN (show l ≤ 1024 by omega) nap
  obtain ⟨⟨m, e, hr, hm, ap⟩, hz⟩ := h
  obtain ⟨x1, x2⟩ := rg_mg hX (show k ≤ 1024 by omega) ap
  have fin : ∀ {w : Nat} {m' : Nat} {e' : Int}, m' ≠ 0 → Ap uF (mg m' e') (mg mN eN * mg m e) → Ap (Eu (l + k + 3)) (mg m' e') (N * X) ∧ (m'.log2 : Int) + e' ≤ 1000 := fun {w m' e'} h0 hw => by
    have a := ap_prod nap ap (Rat.le_of_lt hN.pos) (Rat.le_of_lt hX.pos) (show l ≤ 500 by omega) (show k ≤ 500 by omega) hw
    have hr2 : Rg (C + B) (N * X) := by
      constructor
      · rw [show -(C + B) = -C + -B by omega, pw_add]
        exact Rat.le_trans (Rat.mul_le_mul_of_nonneg_right hN.1 (Rat.le_of_lt (pw_pos _))) (Rat.mul_le_mul_of_nonneg_left hX.1 (Rat.le_of_lt hN.pos))
      · rw [pw_add]
        exact Rat.le_trans (Rat.mul_le_mul_of_nonneg_right hN.2 (Rat.le_of_lt hX.pos)) (Rat.mul_le_mul_of_nonneg_left hX.2 (Rat.le_of_lt (pw_pos _)))
    exact ⟨a, rg_log h0 hr2 (by omega) a (by omega)⟩
  cases q with
  | false =>
    have hnr : D.read n.1 = .number false mN eN := hnr
    have hnz : Zr n.2 := hnz
    cases r with
    | false =>
      have hr : D.read z.1 = .number σ m e := hr
      have hz : Zr z.2 := hz
      obtain ⟨ac, m1, e1, g1, r1, h1, a1⟩ := mul_ap hnr hr hnm hm n1 n2 x1 x2 (by omega) (by omega)
      obtain ⟨a1', hL1⟩ := fin (w := 0) h1 a1
      obtain ⟨bd, g2, y2⟩ := mul_zz hnz hz
      obtain ⟨s2, e2, r2⟩ := y2
      obtain ⟨re, m3, e3, g3, r3, v3⟩ := (add_zero_nm r1 r2 h1 hL1).2.2.1
      obtain ⟨ad, g4, y4⟩ := mul_zero_r hz hnr
      obtain ⟨bc, g5, y5⟩ := mul_zero_l hnz hr
      obtain ⟨im, g6, y6⟩ := (add_zz y4 y5).1
      have hc := cmul_of g1 g2 g3 g4 g5 g6
      rw [wMul_of hc]
      rw [Bool.false_xor] at r3
      exact ⟨hc, ⟨m3, e3, by rw [show (σ ^^ (false && false)) = σ by cases σ <;> rfl]; exact r3, mgnz h1 v3, by rw [v3]; exact a1'⟩, y6⟩
    | true =>
      have hr : D.read z.2 = .number σ m e := hr
      have hz : Zr z.1 := hz
      obtain ⟨ac, g1, y1⟩ := mul_zero_r hz hnr
      obtain ⟨bd, g2, y2⟩ := mul_zero_l hnz hr
      obtain ⟨re, g3, y3⟩ := (add_zz y1 y2).2
      obtain ⟨ad, m1, e1, g4, r1, h1, a1⟩ := mul_ap hnr hr hnm hm n1 n2 x1 x2 (by omega) (by omega)
      obtain ⟨a1', hL1⟩ := fin (w := 0) h1 a1
      obtain ⟨bc, g5, y5⟩ := mul_zz hnz hz
      obtain ⟨s2, e2, r2⟩ := y5
      obtain ⟨im, m3, e3, g6, r3, v3⟩ := (add_zero_nm r1 r2 h1 hL1).1
      have hc := cmul_of g1 g2 g3 g4 g5 g6
      rw [wMul_of hc]
      rw [Bool.false_xor] at r3
      exact ⟨hc, ⟨m3, e3, by rw [show (σ ^^ (false && true)) = σ by cases σ <;> rfl]; exact r3, mgnz h1 v3, by rw [v3]; exact a1'⟩, y3⟩
  | true =>
    have hnr : D.read n.2 = .number false mN eN := hnr
    have hnz : Zr n.1 := hnz
    cases r with
    | false =>
      have hr : D.read z.1 = .number σ m e := hr
      have hz : Zr z.2 := hz
      obtain ⟨ac, g1, y1⟩ := mul_zero_l hnz hr
      obtain ⟨bd, g2, y2⟩ := mul_zero_r hz hnr
      obtain ⟨re, g3, y3⟩ := (add_zz y1 y2).2
      obtain ⟨ad, g4, y4⟩ := mul_zz hnz hz
      obtain ⟨bc, m1, e1, g5, r1, h1, a1⟩ := mul_ap hnr hr hnm hm n1 n2 x1 x2 (by omega) (by omega)
      obtain ⟨a1', hL1⟩ := fin (w := 0) h1 a1
      obtain ⟨s2, e2, r2⟩ := y4
      obtain ⟨im, m3, e3, g6, r3, v3⟩ := (add_zero_nm r1 r2 h1 hL1).2.1
      have hc := cmul_of g1 g2 g3 g4 g5 g6
      rw [wMul_of hc]
      rw [Bool.false_xor] at r3
      exact ⟨hc, ⟨m3, e3, by rw [show (σ ^^ (true && false)) = σ by cases σ <;> rfl]; exact r3, mgnz h1 v3, by rw [v3]; exact a1'⟩, y3⟩
    | true =>
      have hr : D.read z.2 = .number σ m e := hr
      have hz : Zr z.1 := hz
      obtain ⟨ac, g1, y1⟩ := mul_zz hnz hz
      obtain ⟨bd, m1, e1, g2, r1, h1, a1⟩ := mul_ap hnr hr hnm hm n1 n2 x1 x2 (by omega) (by omega)
      obtain ⟨a1', hL1⟩ := fin (w := 0) h1 a1
      obtain ⟨s2, e2, r2⟩ := y1
      obtain ⟨re, m3, e3, g3, r3, v3⟩ := (add_zero_nm r1 r2 h1 hL1).2.2.2
      obtain ⟨ad, g4, y4⟩ := mul_zero_l hnz hr
      obtain ⟨bc, g5, y5⟩ := mul_zero_r hz hnr
      obtain ⟨im, g6, y6⟩ := (add_zz y4 y5).1
      have hc := cmul_of g1 g2 g3 g4 g5 g6
      rw [wMul_of hc]
      rw [Bool.false_xor] at r3
      exact ⟨hc, ⟨m3, e3, by rw [show (σ ^^ (true && true)) = !σ by cases σ <;> rfl]; exact r3, mgnz h1 v3, by rw [v3]; exact a1'⟩, y6⟩
/-- Turned signs. -/
theorem ng_sh {r σ : Bool} {X : Rat} {k : Nat} {z : CF} (h : Sh' r σ X k z) : Sh' r (!σ) X k (ngC z) := by
  obtain ⟨⟨m, e, hr, hm, ap⟩, s, j, hz⟩ := h
  cases r
  · exact ⟨⟨m, e, ng_read hr, hm, ap⟩, _, j, ng_read hz⟩
  · exact ⟨⟨m, e, ng_read hr, hm, ap⟩, _, j, ng_read hz⟩
end Go.Sx

/- Clear films as a whole: how near the wide numbers are. -/
namespace Go.Sx
open Go Ieee
set_option linter.unusedVariables false
set_option linter.unusedSimpArgs false

theorem Rg.mono {B C : Int} {X : Rat} (h : Rg B X) (hB : B ≤ C) : Rg C X := ⟨Rat.le_trans (pw_le (by omega)) h.1, Rat.le_trans h.2 (pw_le hB)⟩
theorem Rg.mul {B C : Int} {X Y : Rat} (h : Rg B X) (k : Rg C Y) : Rg (B + C) (X * Y) := by
  constructor
  · rw [show -(B + C) = -B + -C by omega, pw_add]
    exact Rat.le_trans (Rat.mul_le_mul_of_nonneg_right h.1 (Rat.le_of_lt (pw_pos _))) (Rat.mul_le_mul_of_nonneg_left k.1 (Rat.le_of_lt h.pos))
  · rw [pw_add]
    exact Rat.le_trans (Rat.mul_le_mul_of_nonneg_right h.2 (Rat.le_of_lt k.pos)) (Rat.mul_le_mul_of_nonneg_left k.2 (Rat.le_of_lt (pw_pos _)))
theorem Rg.div {B C : Int} {X Y : Rat} (h : Rg B X) (k : Rg C Y) : Rg (B + C) (X / Y) := by
  have hY := k.pos
  have e : X / Y * Y = X := by grind
  have hp := pw_pos (-(B + C))
  constructor
  · refine Rat.le_of_mul_le_mul_right (c := Y) ?_ hY
    rw [e]
    have h1 : pw (-(B + C)) * Y ≤ pw (-(B + C)) * pw C := Rat.mul_le_mul_of_nonneg_left k.2 (Rat.le_of_lt hp)
    rw [← pw_add, show -(B + C) + C = -B by omega] at h1
    exact Rat.le_trans h1 h.1
  · refine Rat.le_of_mul_le_mul_right (c := Y) ?_ hY
    rw [e]
    have h1 : pw (B + C) * pw (-C) ≤ pw (B + C) * Y := Rat.mul_le_mul_of_nonneg_left k.1 (Rat.le_of_lt (pw_pos _))
    rw [← pw_add, show B + C + -C = B by omega] at h1
    exact Rat.le_trans h.2 h1
theorem Sh'.mono {r σ : Bool} {X : Rat} {k l : Nat} {z : CF} (h : Sh' r σ X k z) (hX : 0 ≤ X) (hl : k ≤ l) : Sh' r σ X l z := by
  obtain ⟨⟨m, e, hr, hm, ap⟩, hz⟩ := h
  refine ⟨⟨m, e, hr, hm, ap.mono hX ?_⟩, hz⟩
  have := Eu_nn (l - k)
  have e : Eu l = Eu k + Eu (l - k) := by rw [← Eu_add]; congr 1; omega
  grind
/-- The exact numbers, without signs and powers of i. -/
def xRun (N : Nat → Rat) (qt : Nat → Int) (b : Rat) : Nat → Rat × Rat
  | 0 => (1, b)
  | k + 1 => if qt k % 2 = 1 then ((xRun N qt b k).2 / N k, N k * (xRun N qt b k).1) else xRun N qt b k
theorem one_sh : Sh' false false 1 0 oneF := by
  refine ⟨⟨2 ^ 52, -52, one_read, by decide, ?_⟩, zr0⟩
  rw [mg_pow, show ((52 : Nat) : Int) + -52 = 0 from rfl, pw_zero]
  exact Ap.refl (Eu_nn 0) (by decide)
theorem rg_one : Rg 0 1 := ⟨by rw [show -(0 : Int) = 0 from rfl, pw_zero]; exact Rat.le_refl, by rw [pw_zero]; exact Rat.le_refl⟩
theorem run_sh {n : Nat → CF} {N : Nat → Rat} {qt : Nat → Int} {b : CF} {bX : Rat} {L : Nat} (hL : L ≤ 8) (hn : ∀ k, k < L → Sh' false false (N k) 4 (n k) ∧ Rg 7 (N k)) (hb : Sh' false false bX 4 b) (hbR : Rg 7 bX) :
    ∀ k, k ≤ L → ∃ r σ, Sh' r σ (xRun N qt bX k).1 (8 * k + 4) (wRun n qt b k).1 ∧ Sh' r σ (xRun N qt bX k).2 (8 * k + 4) (wRun n qt b k).2 ∧ Rg (7 * k + 7) (xRun N qt bX k).1 ∧ Rg (7 * k + 7) (xRun N qt bX k).2
  | 0, _ => ⟨false, false, one_sh.mono (by decide) (by omega), hb, rg_one.mono (by omega), hbR.mono (by omega)⟩
  | k + 1, hk => by
    obtain ⟨r, σ, h1, h2, g1, g2⟩ := run_sh hL hn hb hbR k (by omega)
    obtain ⟨s1, s2⟩ := hn k (by omega)
    have key : ∃ r' σ', Sh' r' σ' (xRun N qt bX (k + 1)).1 (8 * k + 12) (if qt k % 2 = 1 then wQuo (wMul iF (wRun n qt b k).2) (n k) else (wRun n qt b k).1) ∧ Sh' r' σ' (xRun N qt bX (k + 1)).2 (8 * k + 12) (if qt k % 2 = 1 then wMul (wMul iF (n k)) (wRun n qt b k).1 else (wRun n qt b k).2) ∧
        Rg (7 * k + 14) (xRun N qt bX (k + 1)).1 ∧ Rg (7 * k + 14) (xRun N qt bX (k + 1)).2 := by
      by_cases ho : qt k % 2 = 1
      · simp only [xRun, if_pos ho]
        obtain ⟨_, i1⟩ := i_sh h2 g2 (by omega) (by omega)
        obtain ⟨_, q1⟩ := quo_sh i1 g2 (by omega) (by omega) s1 s2 (by omega) (by omega) (by omega) (by omega)
        obtain ⟨_, i2⟩ := i_sh s1 s2 (by omega) (by omega)
        obtain ⟨_, q2⟩ := mul_sh (q := true) (n := wMul iF (n k)) h1 g1 (by omega) (by omega) i2 s2 (by omega) (by omega) (by omega) (by omega)
        have e1 : (true ^^ r) = !r := by cases r <;> rfl
        have e2 : (σ ^^ (true && r)) = (σ ^^ r) := by cases r <;> rfl
        rw [e1, e2] at q2
        refine ⟨!r, σ ^^ r, q1.mono ?_ (by omega), q2.mono ?_ (by omega), (g2.div s2).mono (by omega), (s2.mul g1).mono (by omega)⟩
        · exact Rat.le_of_lt (g2.div s2).pos
        · exact Rat.le_of_lt (s2.mul g1).pos
      · simp only [xRun, if_neg ho]
        exact ⟨r, σ, h1.mono (Rat.le_of_lt g1.pos) (by omega), h2.mono (Rat.le_of_lt g2.pos) (by omega), g1.mono (by omega), g2.mono (by omega)⟩
    obtain ⟨r', σ', a1, a2, b1, b2⟩ := key
    have e8 : 8 * (k + 1) + 4 = 8 * k + 12 := by omega
    rw [e8]
    have hB : (7 * ((k + 1 : Nat) : Int) + 7) = 7 * k + 14 := by omega
    rw [hB]
    show ∃ r σ, Sh' r σ _ _ (wStep (n k) (qt k) (wRun n qt b k).1 (wRun n qt b k).2).1 ∧ Sh' r σ _ _ (wStep (n k) (qt k) (wRun n qt b k).1 (wRun n qt b k).2).2 ∧ _
    unfold wStep
    dsimp only
    by_cases h2q : 2 ≤ qt k
    · rw [if_pos h2q]
      exact ⟨r', !σ', ng_sh a1, ng_sh a2, b1, b2⟩
    · rw [if_neg h2q]
      exact ⟨r', σ', a1, a2, b1, b2⟩
end Go.Sx

/- Clear films: what is reflected, in floating numbers, is near to what it should be. -/
namespace Go.Sx
open Go Ieee
set_option linter.unusedVariables false
set_option linter.unusedSimpArgs false

theorem sum_ap {x y : Nat} {s : Bool} {m n : Nat} {i j B : Int} (hx : D.read x = .number s m i) (hy : D.read y = .number s n j) (hm : m ≠ 0) (x1 : pw (-B) ≤ mg m i) (x2 : mg m i ≤ pw B) (y2 : mg n j ≤ pw B) (hB0 : 0 ≤ B) (hB : B ≤ 900) :
    ∃ w m' e', floatBits .add .f64 x y = some w ∧ D.read w = .number s m' e' ∧ m' ≠ 0 ∧ Ap uF (mg m' e') (mg m i + mg n j) := by
  obtain ⟨u, c, base, e, _, h⟩ := fsum_facts (s := s) (t := s) (m := m) (n := n) (i := i) (j := j)
  obtain ⟨rfl, hv⟩ := h rfl
  have hmi := mg_pos hm i
  have hnj := mg_nn n j
  have hc : c ≠ 0 := fun h => by
    subst h
    rw [mg_zero] at hv
    grind
  have lo : pw (-B) ≤ mg c base := by rw [hv]; grind
  have hi : mg c base ≤ pw (B + 1) := by rw [hv, pw_succ]; grind
  obtain ⟨l1, l2⟩ := log_of hc lo hi
  obtain ⟨m', e', r, hm', ap⟩ := near_ap (s := u) (e := base) hc (by omega) (by omega)
  refine ⟨_, m', e', ?_, r, hm', by rw [← hv]; exact ap⟩
  show ((D.read x).sum (D.read y)).map D.write = _
  rw [hx, hy, e]
  rfl
/-- The place of a number that is not too small. -/
theorem place_of {x : Nat} {s : Bool} {m : Nat} {i a : Int} (hx : D.read x = .number s m i) (hm : m ≠ 0) (h : pw a ≤ mg m i) : a - 53 ≤ i := by
  have hs := read_small hx
  have hl : m.log2 < 53 := (Nat.log2_lt hm).2 hs
  obtain ⟨_, l2⟩ := mg_log hm i
  have h1 : ¬ i + 53 < a := fun hh => by
    have := pw_le (show (m.log2 : Int) + i + 1 ≤ a by omega)
    grind
  omega
theorem sg_mul (s : Bool) (x : Rat) : sg s x = (if s then -1 else 1) * x := by unfold sg; cases s <;> simp <;> grind
/-- A difference of two of the same sign. -/
theorem dif_ap {x y : Nat} {s : Bool} {m n : Nat} {i j B : Int} (hx : D.read x = .number s m i) (hy : D.read y = .number s n j) (hm : m ≠ 0) (hn : n ≠ 0) (x1 : pw (-B) ≤ mg m i) (x2 : mg m i ≤ pw B) (y1 : pw (-B) ≤ mg n j) (y2 : mg n j ≤ pw B) (hB0 : 0 ≤ B) (hB : B ≤ 800) :
    ∃ w τ m' e', floatBits .sub .f64 x y = some w ∧ D.read w = .number τ m' e' ∧ (m' ≠ 0 → pw (-B - 54) ≤ mg m' e' ∧ mg m' e' ≤ pw (B + 2)) ∧
      sg τ (mg m' e') - sg s (mg m i - mg n j) ≤ uF * (mg m i + mg n j) ∧ sg s (mg m i - mg n j) - sg τ (mg m' e') ≤ uF * (mg m i + mg n j) := by
  have h3 : min i j ≤ i := Int.min_le_left _ _
  have h4 : min i j ≤ j := Int.min_le_right _ _
  have p1 := place_of hx hm x1
  have p2 := place_of hy hn y1
  obtain ⟨M, hM⟩ : ∃ M, m <<< (i - min i j).toNat = M := ⟨_, rfl⟩
  obtain ⟨N, hN⟩ : ∃ N, n <<< (j - min i j).toNat = N := ⟨_, rfl⟩
  have vM : mg M (min i j) = mg m i := by rw [← hM]; exact mg_shl m h3
  have vN : mg N (min i j) = mg n j := by rw [← hN]; exact mg_shl n h4
  generalize hbase : min i j = base at *
  obtain ⟨total, htot⟩ : ∃ total : Int, signed s m (i - base).toNat + signed (!s) n (j - base).toNat = total := ⟨_, rfl⟩
  obtain ⟨u, hu⟩ : ∃ u : Bool, (if total = 0 then s && !s else decide (total < 0)) = u := ⟨_, rfl⟩
  have hsum : (Datum.number s m i).sum (.number (!s) n j) = some (.number u total.natAbs base) := by
    show some (Datum.number (if (signed s m (i - min i j).toNat + signed (!s) n (j - min i j).toNat) = 0 then s && !s else decide ((signed s m (i - min i j).toNat + signed (!s) n (j - min i j).toNat) < 0)) (signed s m (i - min i j).toNat + signed (!s) n (j - min i j).toNat).natAbs (min i j)) = _
    rw [hbase, htot, hu]
  -- the exact value
  have hval : sg u (mg total.natAbs base) = sg s (mg m i - mg n j) := by
    rw [← vM, ← vN]
    have ht : total = (if s then (-(M : Int) + (N : Int)) else ((M : Int) - (N : Int))) := by
      rw [← htot]
      unfold signed
      rw [hM, hN]
      cases s <;> simp <;> omega
    have e1 : sg u (mg total.natAbs base) = (total : Rat) * pw base := by
      have e2 : sg u ((total.natAbs : Nat) : Rat) = (total : Rat) := by
        rw [← hu]
        rcases Int.lt_trichotomy total 0 with h | h | h
        · rw [if_neg (by omega), decide_eq_true h]
          unfold sg
          rw [if_pos rfl]
          have : (total : Rat) = ((-(total.natAbs : Int) : Int) : Rat) := by congr 1; omega
          rw [this, Rat.intCast_neg]
          rfl
        · rw [h]
          cases s <;> simp [sg]
        · rw [if_neg (by omega), decide_eq_false (by omega)]
          unfold sg
          rw [if_neg (by decide)]
          have : (total : Rat) = ((total.natAbs : Int) : Rat) := by congr 1; omega
          rw [this]
          rfl
      rw [← e2]
      unfold mg sg
      split <;> grind
    rw [e1, ht]
    unfold mg sg
    cases s
    · simp only [Bool.false_eq_true, if_false, Rat.intCast_sub]
      have a1 : ((M : Int) : Rat) = (M : Rat) := rfl
      have a2 : ((N : Int) : Rat) = (N : Rat) := rfl
      rw [a1, a2]
      grind
    · simp only [if_true, Rat.intCast_add, Rat.intCast_neg]
      have a1 : ((M : Int) : Rat) = (M : Rat) := rfl
      have a2 : ((N : Int) : Rat) = (N : Rat) := rfl
      rw [a1, a2]
      grind
  have hle : mg total.natAbs base ≤ mg m i + mg n j := by
    have h1 := mg_nn m i
    have h2 := mg_nn n j
    have h3 : sg u (mg total.natAbs base) = mg total.natAbs base ∨ sg u (mg total.natAbs base) = - mg total.natAbs base := by unfold sg; cases u <;> simp
    have h4 : sg s (mg m i - mg n j) = mg m i - mg n j ∨ sg s (mg m i - mg n j) = -(mg m i - mg n j) := by unfold sg; cases s <;> simp
    rcases h3 with h3 | h3 <;> rcases h4 with h4 | h4 <;> rw [h3, h4] at hval <;> grind
  by_cases h0 : total.natAbs = 0
  · rw [h0] at hsum hval hle
    rw [mg_zero] at hval
    obtain ⟨τ, e', r⟩ := write_zero u base
    refine ⟨D.write (.number u 0 base), τ, 0, e', ?_, r, fun h => absurd rfl h, ?_, ?_⟩
    · show ((D.read x).sum (D.read y).opposite).map D.write = _
      rw [hx, opp_read hy, hsum]
      rfl
    all_goals
      rw [mg_zero, ← hval]
      have z1 : sg τ (0 : Rat) = 0 := by unfold sg; cases τ <;> simp
      have z2 : sg u (0 : Rat) = 0 := by unfold sg; cases u <;> simp
      rw [z1, z2]
      have := Rat.mul_nonneg uF_nn (show 0 ≤ mg m i + mg n j by have := mg_nn m i; have := mg_nn n j; grind)
      grind
  · have lo : pw (-B - 53) ≤ mg total.natAbs base := by
      have h1 : mg 1 base ≤ mg total.natAbs base := mg_mono (by omega) _
      have h2 : mg 1 base = pw base := by have := mg_pow 0 base; simpa using this
      rw [h2] at h1
      refine Rat.le_trans (pw_le ?_) h1
      rw [← hbase]
      omega
    have hi : mg total.natAbs base ≤ pw (B + 1) := by rw [pw_succ]; grind
    obtain ⟨l1, l2⟩ := log_of h0 lo hi
    obtain ⟨m', e', r, hm', ap⟩ := near_ap (s := u) (e := base) h0 (by omega) (by omega)
    have hu1 : uF ≤ 1 / 2 := by
      have := uF_le.2
      have := Eu_le (show 1 ≤ 1024 by omega)
      have := pw34
      grind
    refine ⟨D.write (.number u total.natAbs base), u, m', e', ?_, r, fun _ => ?_, ?_, ?_⟩
    · show ((D.read x).sum (D.read y).opposite).map D.write = _
      rw [hx, opp_read hy, hsum]
      rfl
    · obtain ⟨a1, a2⟩ := ap
      have q0 := mg_nn total.natAbs base
      have q1 := Rat.mul_le_mul_of_nonneg_left (show (1 : Rat) / 2 ≤ 1 - uF by grind) q0
      have q2 := Rat.mul_le_mul_of_nonneg_left (show 1 + uF ≤ (2 : Rat) by grind) q0
      have e1 : pw (-B - 53) = 2 * pw (-B - 54) := by rw [← pw_succ]; congr 1; omega
      have e2 : pw (B + 2) = 2 * pw (B + 1) := by rw [← pw_succ]; congr 1; omega
      constructor <;> grind
    all_goals
      rw [← hval]
      obtain ⟨a1, a2⟩ := ap
      have h5 : mg total.natAbs base * uF ≤ uF * (mg m i + mg n j) := by
        rw [Rat.mul_comm]
        exact Rat.mul_le_mul_of_nonneg_left hle uF_nn
      unfold sg
      cases u <;> simp only [Bool.false_eq_true, if_false, if_true] <;> grind
end Go.Sx

/- Clear films: the wide number that is reflected is near to the exact one. -/
namespace Go.Sx
open Go Ieee
set_option linter.unusedVariables false
set_option linter.unusedSimpArgs false

theorem cquo_of' {a b c d ratio rc denom ar n1 e br n2 f : Nat} (hge : absGe c d = false) (h1 : floatBits .quo .f64 c d = some ratio) (h2 : floatBits .mul .f64 ratio c = some rc) (h3 : floatBits .add .f64 d rc = some denom)
    (h4 : floatBits .mul .f64 a ratio = some ar) (h5 : floatBits .add .f64 ar b = some n1) (h6 : floatBits .quo .f64 n1 denom = some e) (h7 : floatBits .mul .f64 b ratio = some br) (h8 : floatBits .sub .f64 br a = some n2) (h9 : floatBits .quo .f64 n2 denom = some f)
    (hn : Op.Complex.isNaN e = false) : cQuoBits a b c d = some (e, f) := by
  unfold cQuoBits
  simp only [hge, Bool.false_eq_true, if_false, h1, h2, h3, h4, h5, h6, h7, h8, h9, Option.bind_some, hn, Bool.false_and, Bool.not_false, if_true]
/-- A quotient of two real, or two imaginary, numbers. -/
theorem real_quo {r σ τ : Bool} {top bot : CF} {mt mb : Nat} {et eb : Int} (ht : D.read (mainP r top) = .number τ mt et) (hto : Zr (othP r top)) (hb : D.read (mainP r bot) = .number σ mb eb) (hbo : Zr (othP r bot)) (hmb : mb ≠ 0)
    (t1 : mt ≠ 0 → pw (-300) ≤ mg mt et ∧ mg mt et ≤ pw 300) (b1 : pw (-300) ≤ mg mb eb) (b2 : mg mb eb ≤ pw 300) :
    ∃ e f s me ee, cQuoBits top.1 top.2 bot.1 bot.2 = some (e, f) ∧ Zr f ∧ D.read e = .number s me ee ∧ Ap (uF + uF + uF * uF) (mg me ee * mg mb eb) (mg mt et) ∧ (me ≠ 0 → s = (τ ^^ σ)) := by
  have hLb : (mb.log2 : Int) + eb ≤ 1000 := by have := (log_of hmb b1 b2).2; omega
  have zap : mt = 0 → ∀ (ee : Int), Ap (uF + uF + uF * uF) (mg 0 ee * mg mb eb) (mg mt et) := fun h ee => by
    subst h
    rw [mg_zero, mg_zero, Rat.zero_mul]
    constructor <;> grind
  cases r with
  | false =>
    have ht : D.read top.1 = .number τ mt et := ht
    have hto : Zr top.2 := hto
    have hb : D.read bot.1 = .number σ mb eb := hb
    have hbo : Zr bot.2 := hbo
    have hge : absGe bot.1 bot.2 = true := by
      cases hg : absGe bot.1 bot.2 with
      | true => rfl
      | false =>
        obtain ⟨s, e, hz⟩ := hbo
        have h1 := (absGe_facts hb hz).2 hg
        rw [mg_zero] at h1
        have := mg_pos hmb eb
        grind
    obtain ⟨ratio, f1, z1⟩ := div_zero_l hbo hb hmb
    obtain ⟨rd, f2, z2⟩ := mul_zz z1 hbo
    obtain ⟨s2, e2, r2⟩ := z2
    obtain ⟨denom, md, ed, f3, rd', vd⟩ := (add_zero_nm hb r2 hmb hLb).1
    have hdm := mgnz hmb vd
    obtain ⟨br, g1, y1⟩ := mul_zz hto z1
    obtain ⟨ar, g4, y4⟩ := mul_zero_r z1 ht
    obtain ⟨nn2, g5, y5⟩ := (add_zz hto y4).2
    obtain ⟨f, g6, y6⟩ := div_zero_l y5 rd' hdm
    by_cases h0 : mt = 0
    · have ht0 : Zr top.1 := ⟨τ, et, by rw [← h0]; exact ht⟩
      obtain ⟨nn1, g2, y2⟩ := (add_zz ht0 y1).1
      obtain ⟨q, g3, y3⟩ := div_zero_l y2 rd' hdm
      have hc := cquo_of hge f1 f2 f3 g1 g2 g3 g4 g5 g6 (zr_notNaN y3)
      obtain ⟨s3, e3, r3⟩ := y3
      exact ⟨q, f, s3, 0, e3, hc, y6, r3, zap h0 e3, fun h => absurd rfl h⟩
    · obtain ⟨t1, t2⟩ := t1 h0
      obtain ⟨s3, e3, r3⟩ := y1
      obtain ⟨nn1, m3, e3', g2, r4, v4⟩ := (add_zero_nm ht r3 h0 (by have := (log_of h0 t1 t2).2; omega)).1
      rw [← v4] at t1 t2
      rw [← vd] at b1 b2
      obtain ⟨q, mq, eq, g3, rq, hmq, apq⟩ := div_ap r4 rd' (mgnz h0 v4) hdm t1 t2 b1 b2 (by omega) (by omega)
      have hc := cquo_of hge f1 f2 f3 g1 g2 g3 g4 g5 g6 (fin_notNaN rq)
      rw [v4, vd] at apq
      exact ⟨q, f, _, mq, eq, hc, y6, rq, apq, fun _ => rfl⟩
  | true =>
    have ht : D.read top.2 = .number τ mt et := ht
    have hto : Zr top.1 := hto
    have hb : D.read bot.2 = .number σ mb eb := hb
    have hbo : Zr bot.1 := hbo
    have hge : absGe bot.1 bot.2 = false := by
      cases hg : absGe bot.1 bot.2 with
      | false => rfl
      | true =>
        obtain ⟨s, e, hz⟩ := hbo
        have h1 := (absGe_facts hz hb).1 hg
        rw [mg_zero] at h1
        have := mg_pos hmb eb
        grind
    obtain ⟨ratio, f1, z1⟩ := div_zero_l hbo hb hmb
    obtain ⟨rc, f2, z2⟩ := mul_zz z1 hbo
    obtain ⟨s2, e2, r2⟩ := z2
    obtain ⟨denom, md, ed, f3, rd', vd⟩ := (add_zero_nm hb r2 hmb hLb).1
    have hdm := mgnz hmb vd
    obtain ⟨ar, g1, y1⟩ := mul_zz hto z1
    obtain ⟨br, g4, y4⟩ := mul_zero_r z1 ht
    obtain ⟨nn2, g5, y5⟩ := (add_zz y4 hto).2
    obtain ⟨f, g6, y6⟩ := div_zero_l y5 rd' hdm
    by_cases h0 : mt = 0
    · have ht0 : Zr top.2 := ⟨τ, et, by rw [← h0]; exact ht⟩
      obtain ⟨nn1, g2, y2⟩ := (add_zz y1 ht0).1
      obtain ⟨q, g3, y3⟩ := div_zero_l y2 rd' hdm
      have hc := cquo_of' hge f1 f2 f3 g1 g2 g3 g4 g5 g6 (zr_notNaN y3)
      obtain ⟨s3, e3, r3⟩ := y3
      exact ⟨q, f, s3, 0, e3, hc, y6, r3, zap h0 e3, fun h => absurd rfl h⟩
    · obtain ⟨t1, t2⟩ := t1 h0
      obtain ⟨s3, e3, r3⟩ := y1
      obtain ⟨nn1, m3, e3', g2, r4, v4⟩ := (add_zero_nm ht r3 h0 (by have := (log_of h0 t1 t2).2; omega)).2.1
      rw [← v4] at t1 t2
      rw [← vd] at b1 b2
      obtain ⟨q, mq, eq, g3, rq, hmq, apq⟩ := div_ap r4 rd' (mgnz h0 v4) hdm t1 t2 b1 b2 (by omega) (by omega)
      have hc := cquo_of' hge f1 f2 f3 g1 g2 g3 g4 g5 g6 (fin_notNaN rq)
      rw [v4, vd] at apq
      exact ⟨q, f, _, mq, eq, hc, y6, rq, apq, fun _ => rfl⟩
/-- How the shares add up. -/
theorem ends_err {x y S W T D0 Q0 v t : Rat} {k : Nat} (hk : k ≤ 200) (hD0 : 0 < D0) (hQ0 : 0 < Q0) (hx : Ap (Eu k) x D0) (hy : Ap (Eu k) y Q0) (hS : Ap uF S (x + y))
    (ht1 : t - (x - y) ≤ uF * (x + y)) (ht2 : (x - y) - t ≤ uF * (x + y)) (hv1 : v * S - t ≤ (3 * uF) * (x + y) * 2) (hv2 : t - v * S ≤ (3 * uF) * (x + y) * 2) :
    v - (D0 - Q0) / (D0 + Q0) ≤ pw (-34) ∧ (D0 - Q0) / (D0 + Q0) - v ≤ pw (-34) := by
  have p := pw34
  have ek := Eu_le (show k ≤ 1024 by omega)
  have e1 := Eu_le (show 1 ≤ 1024 by omega)
  have nk := Eu_nn k
  have uu := uF_le.2
  have un := uF_nn
  have hP : 0 < D0 + Q0 := by grind
  have hR : (D0 - Q0) / (D0 + Q0) * (D0 + Q0) = D0 - Q0 := by grind
  have hx0 : 0 ≤ x := hx.nn (by grind) (by grind)
  have hy0 : 0 ≤ y := hy.nn (by grind) (by grind)
  -- everything against D0 + Q0
  obtain ⟨x1, x2⟩ := hx
  obtain ⟨y1, y2⟩ := hy
  obtain ⟨s1, s2⟩ := hS
  have m1 : uF * (x + y) ≤ Eu 1 * (x + y) := Rat.mul_le_mul_of_nonneg_right uu (by grind)
  have m2 : x + y ≤ (D0 + Q0) * (1 + Eu k) := by grind
  have m3 : Eu 1 * (x + y) ≤ Eu 1 * ((D0 + Q0) * (1 + Eu k)) := Rat.mul_le_mul_of_nonneg_left m2 (Eu_nn 1)
  have m4 : Eu 1 * ((D0 + Q0) * (1 + Eu k)) ≤ Eu 1 * ((D0 + Q0) * 2) := Rat.mul_le_mul_of_nonneg_left (Rat.mul_le_mul_of_nonneg_left (by grind) (by grind)) (Eu_nn 1)
  have hu : uF * (x + y) ≤ Eu 2 * (D0 + Q0) := by
    have : Eu 2 = Eu 1 + Eu 1 := Eu_add 1 1
    rw [this]
    grind
  have pk := Rat.mul_nonneg nk (show 0 ≤ D0 + Q0 by grind)
  have hdiff1 : (x - y) - (D0 - Q0) ≤ Eu k * (D0 + Q0) := by grind
  have hdiff2 : (D0 - Q0) - (x - y) ≤ Eu k * (D0 + Q0) := by grind
  have hS1 : S - (D0 + Q0) ≤ (Eu k + Eu 2) * (D0 + Q0) := by grind
  have hS2 : (D0 + Q0) - S ≤ (Eu k + Eu 2) * (D0 + Q0) := by grind
  have hvS1 : v * S - (D0 - Q0) ≤ (Eu k + Eu 2 * 7) * (D0 + Q0) := by grind
  have hvS2 : (D0 - Q0) - v * S ≤ (Eu k + Eu 2 * 7) * (D0 + Q0) := by grind
  generalize hR' : (D0 - Q0) / (D0 + Q0) = R at *
  have hR1 : R ≤ 1 := by
    refine Rat.le_of_mul_le_mul_right (c := D0 + Q0) ?_ hP
    rw [hR]; grind
  have hR2 : -1 ≤ R := by
    refine Rat.le_of_mul_le_mul_right (c := D0 + Q0) ?_ hP
    rw [hR]; grind
  have e2 := Eu_le (show 2 ≤ 1024 by omega)
  have n2 := Eu_nn 2
  have hE : (Eu k + Eu 2 * 7 + (Eu k + Eu 2)) * 2 ≤ pw (-34) := by
    have e7 : (Eu k + Eu 2 * 7 + (Eu k + Eu 2)) * 2 = Eu (4 * k + 32) := by
      unfold Eu
      have a1 : ((4 * k + 32 : Nat) : Rat) = 4 * (k : Rat) + 32 := by rw [Rat.natCast_add, Rat.natCast_mul]; rfl
      rw [a1, show ((2 : Nat) : Rat) = 2 from rfl]
      grind
    rw [e7]
    exact Eu_le (by omega)
  -- (v - R) S = (v S - (D0 - Q0)) - R (S - (D0 + Q0))
  have hb : 0 ≤ (Eu k + Eu 2) * (D0 + Q0) := Rat.mul_nonneg (by grind) (by grind)
  have r1 : R * (S - (D0 + Q0)) ≤ (Eu k + Eu 2) * (D0 + Q0) ∧ -(R * (S - (D0 + Q0))) ≤ (Eu k + Eu 2) * (D0 + Q0) := by
    generalize hz : S - (D0 + Q0) = z at *
    have z1 : z ≤ (Eu k + Eu 2) * (D0 + Q0) := by grind
    have z2 : -z ≤ (Eu k + Eu 2) * (D0 + Q0) := by grind
    generalize (Eu k + Eu 2) * (D0 + Q0) = b at *
    have w1 := Rat.mul_nonneg (show 0 ≤ 1 - R by grind) (show 0 ≤ b - z by grind)
    have w2 := Rat.mul_nonneg (show 0 ≤ 1 + R by grind) (show 0 ≤ b + z by grind)
    have w3 := Rat.mul_nonneg (show 0 ≤ 1 - R by grind) (show 0 ≤ b + z by grind)
    have w4 := Rat.mul_nonneg (show 0 ≤ 1 + R by grind) (show 0 ≤ b - z by grind)
    constructor <;> grind
  have hS0 : (D0 + Q0) / 2 ≤ S := by
    have := Rat.mul_le_mul_of_nonneg_right (show Eu k + Eu 2 ≤ 1 / 2 by grind) (show 0 ≤ D0 + Q0 by grind)
    grind
  have hSp : 0 < S := by grind
  have key : (v - R) * S = (v * S - (D0 - Q0)) - R * (S - (D0 + Q0)) := by rw [← hR]; grind
  have up : (v - R) * S ≤ (Eu k + Eu 2 * 7 + (Eu k + Eu 2)) * (D0 + Q0) := by rw [key]; grind
  have dn : (R - v) * S ≤ (Eu k + Eu 2 * 7 + (Eu k + Eu 2)) * (D0 + Q0) := by
    have : (R - v) * S = -((v - R) * S) := by grind
    rw [this, key]; grind
  have fin : (Eu k + Eu 2 * 7 + (Eu k + Eu 2)) * (D0 + Q0) ≤ pw (-34) * S := by
    have h1 := Rat.mul_le_mul_of_nonneg_right hE (show 0 ≤ (D0 + Q0) / 2 by grind)
    have h2 := Rat.mul_le_mul_of_nonneg_left hS0 (Rat.le_of_lt (pw_pos (-34)))
    grind
  exact ⟨Rat.le_of_mul_le_mul_right (Rat.le_trans up fin) hSp, Rat.le_of_mul_le_mul_right (Rat.le_trans dn fin) hSp⟩
end Go.Sx

/- Clear films: the wide answer, near the exact one. -/
namespace Go.Sx
open Go Ieee
set_option linter.unusedVariables false
set_option linter.unusedSimpArgs false

theorem rg_80 {B : Int} {X : Rat} {k m : Nat} {e : Int} (hX : Rg B X) (hk : k ≤ 1024) (h : Ap (Eu k) (mg m e) X) (hB : B ≤ 79) : pw (-80) ≤ mg m e ∧ mg m e ≤ pw 80 := by
  obtain ⟨h1, h2⟩ := rg_mg hX hk h
  exact ⟨Rat.le_trans (pw_le (by omega)) h1, Rat.le_trans h2 (pw_le (by omega))⟩
theorem sg_sg (s t : Bool) (x : Rat) : sg (s ^^ t) x = sg s (sg t x) := by unfold sg; cases s <;> cases t <;> simp
theorem sg_self (s : Bool) (x : Rat) : sg s (sg s x) = x := by unfold sg; cases s <;> simp
/-- **The wide answer is near the exact one.** -/
theorem wide_near {n : Nat → CF} {N : Nat → Rat} {qt : Nat → Int} {a b : CF} {aX bX : Rat} {L : Nat} (hL : L ≤ 8) (hn : ∀ k, k < L → Sh' false false (N k) 4 (n k) ∧ Rg 7 (N k)) (ha : Sh' false false aX 4 a) (haR : Rg 7 aX) (hb : Sh' false false bX 4 b) (hbR : Rg 7 bX)
    {v : Value} (hv : WideRes n qt a b L v) : ∃ e f s m x, v = .complex .f64 e f ∧ Zr f ∧ D.read e = .number s m x ∧
      sg s (mg m x) - (aX * (xRun N qt bX L).1 - (xRun N qt bX L).2) / (aX * (xRun N qt bX L).1 + (xRun N qt bX L).2) ≤ pw (-34) ∧
      (aX * (xRun N qt bX L).1 - (xRun N qt bX L).2) / (aX * (xRun N qt bX L).1 + (xRun N qt bX L).2) - sg s (mg m x) ≤ pw (-34) := by
  obtain ⟨r, σ, hp, hq, gp, gq⟩ := run_sh (qt := qt) hL hn hb hbR L (Nat.le_refl _)
  obtain ⟨_, hd⟩ := mul_sh (q := false) (n := a) hp gp (by omega) (by omega) ha haR (by omega) (by omega) (by omega) (by omega)
  rw [show (false ^^ r) = r by cases r <;> rfl, show (σ ^^ (false && r)) = σ by cases σ <;> rfl] at hd
  have gd := haR.mul gp
  obtain ⟨⟨m1, e1, r1, z1, ap1⟩, o1⟩ := hd
  obtain ⟨⟨m2, e2, r2, z2, ap2⟩, o2⟩ := hq
  have ap1 : Ap (Eu 90) (mg m1 e1) (aX * (xRun N qt bX L).1) := ap1.mono (Rat.le_of_lt gd.pos) (by
    have := Eu_nn (90 - (4 + (8 * L + 4) + 3))
    have e : Eu 90 = Eu (4 + (8 * L + 4) + 3) + Eu (90 - (4 + (8 * L + 4) + 3)) := by rw [← Eu_add]; congr 1; omega
    grind)
  have ap2 : Ap (Eu 90) (mg m2 e2) (xRun N qt bX L).2 := ap2.mono (Rat.le_of_lt gq.pos) (by
    have := Eu_nn (90 - (8 * L + 4))
    have e : Eu 90 = Eu (8 * L + 4) + Eu (90 - (8 * L + 4)) := by rw [← Eu_add]; congr 1; omega
    grind)
  obtain ⟨l1, h1⟩ := rg_80 gd (by omega) ap1 (by omega)
  obtain ⟨l2, h2⟩ := rg_80 gq (by omega) ap2 (by omega)
  -- below and above
  obtain ⟨wb, mb, eb, fb, rb, zb, apb⟩ := sum_ap r1 r2 z1 l1 h1 h2 (by omega) (by omega)
  obtain ⟨wt, τ, mt, et, ft, rt, rgt, d1, d2⟩ := dif_ap r1 r2 z1 z2 l1 h1 l2 h2 (by omega) (by omega)
  obtain ⟨ob, gb, yb⟩ := (add_zz o1 o2).1
  obtain ⟨ot, gt, yt⟩ := (add_zz o1 o2).2
  have hbot : D.read (mainP r (wBot n qt a b L)) = .number σ mb eb ∧ Zr (othP r (wBot n qt a b L)) := by
    unfold wBot wAdd
    cases r with
    | false =>
      have fb : floatBits .add .f64 (wMul a (wRun n qt b L).1).1 (wRun n qt b L).2.1 = some wb := fb
      have gb : floatBits .add .f64 (wMul a (wRun n qt b L).1).2 (wRun n qt b L).2.2 = some ob := gb
      rw [fb, gb]
      exact ⟨rb, yb⟩
    | true =>
      have fb : floatBits .add .f64 (wMul a (wRun n qt b L).1).2 (wRun n qt b L).2.2 = some wb := fb
      have gb : floatBits .add .f64 (wMul a (wRun n qt b L).1).1 (wRun n qt b L).2.1 = some ob := gb
      rw [fb, gb]
      exact ⟨rb, yb⟩
  have htop : D.read (mainP r (wTop n qt a b L)) = .number τ mt et ∧ Zr (othP r (wTop n qt a b L)) := by
    unfold wTop wSub
    cases r with
    | false =>
      have ft : floatBits .sub .f64 (wMul a (wRun n qt b L).1).1 (wRun n qt b L).2.1 = some wt := ft
      have gt : floatBits .sub .f64 (wMul a (wRun n qt b L).1).2 (wRun n qt b L).2.2 = some ot := gt
      rw [ft, gt]
      exact ⟨rt, yt⟩
    | true =>
      have ft : floatBits .sub .f64 (wMul a (wRun n qt b L).1).2 (wRun n qt b L).2.2 = some wt := ft
      have gt : floatBits .sub .f64 (wMul a (wRun n qt b L).1).1 (wRun n qt b L).2.1 = some ot := gt
      rw [ft, gt]
      exact ⟨rt, yt⟩
  have hu1 : uF ≤ 1 / 2 := by
    have := uF_le.2
    have := Eu_le (show 1 ≤ 1024 by omega)
    have := pw34
    grind
  have un := uF_nn
  -- how great the sum is
  have hs0 : pw (-80) ≤ mg m1 e1 + mg m2 e2 := by have := mg_nn m2 e2; grind
  have hs1 : mg m1 e1 + mg m2 e2 ≤ pw 81 := by rw [show (81 : Int) = 80 + 1 from rfl, pw_succ]; grind
  have b1 : pw (-81) ≤ mg mb eb ∧ mg mb eb ≤ pw 82 := by
    obtain ⟨a1, a2⟩ := apb
    have q0 : 0 ≤ mg m1 e1 + mg m2 e2 := by have := pw_pos (-80); grind
    have q1 := Rat.mul_le_mul_of_nonneg_left (show (1 : Rat) / 2 ≤ 1 - uF by grind) q0
    have q2 := Rat.mul_le_mul_of_nonneg_left (show 1 + uF ≤ (2 : Rat) by grind) q0
    have e1 : pw (-80) = 2 * pw (-81) := by rw [← pw_succ]; rfl
    have e2 : pw 82 = 2 * pw 81 := by rw [← pw_succ]; rfl
    constructor <;> grind
  have t1 : mt ≠ 0 → pw (-300) ≤ mg mt et ∧ mg mt et ≤ pw 300 := fun h => by
    obtain ⟨q1, q2⟩ := rgt h
    exact ⟨Rat.le_trans (pw_le (by omega)) q1, Rat.le_trans q2 (pw_le (by omega))⟩
  obtain ⟨e, f, s, me, ee, hc, zf, re, ape, hs⟩ := real_quo htop.1 htop.2 hbot.1 hbot.2 zb t1 (Rat.le_trans (pw_le (by omega)) b1.1) (Rat.le_trans b1.2 (pw_le (by omega)))
  obtain ⟨P, hv⟩ := hv
  have hv := may_cquo hc hv
  refine ⟨e, f, s, me, ee, hv, zf, re, ?_⟩
  -- with the sign of the sum taken away
  have hT : mg mt et ≤ (mg m1 e1 + mg m2 e2) * 2 := by
    have g1 := mg_nn m1 e1
    have g2 := mg_nn m2 e2
    have g3 := mg_nn mt et
    have g4 : uF * (mg m1 e1 + mg m2 e2) ≤ 1 / 2 * (mg m1 e1 + mg m2 e2) := Rat.mul_le_mul_of_nonneg_right hu1 (by grind)
    unfold sg at d1 d2
    cases τ <;> cases σ <;> simp only [Bool.false_eq_true, if_false, if_true] at d1 d2 <;> grind
  have hval : sg s (mg me ee) = sg σ (sg τ (mg me ee)) := by
    by_cases h0 : me = 0
    · subst h0
      rw [mg_zero]
      unfold sg
      cases s <;> cases σ <;> cases τ <;> simp
    · rw [hs h0, show (τ ^^ σ) = (σ ^^ τ) by cases τ <;> cases σ <;> rfl, sg_sg]
  refine ends_err (S := mg mb eb) (W := 0) (T := 0) (x := mg m1 e1) (y := mg m2 e2) (t := sg σ (sg τ (mg mt et))) (k := 90) (by omega) gd.pos gq.pos ap1 ap2 apb ?_ ?_ ?_ ?_
  · unfold sg at d1 d2 ⊢
    cases τ <;> cases σ <;> simp only [Bool.false_eq_true, if_false, if_true] at d1 d2 ⊢ <;> grind
  · unfold sg at d1 d2 ⊢
    cases τ <;> cases σ <;> simp only [Bool.false_eq_true, if_false, if_true] at d1 d2 ⊢ <;> grind
  all_goals
    rw [hval]
    obtain ⟨a1, a2⟩ := ape
    have g3 := mg_nn mt et
    have c3 : uF + uF + uF * uF ≤ 3 * uF := by
      have := Rat.mul_le_mul_of_nonneg_left (show uF ≤ 1 by grind) un
      grind
    have c4 : mg mt et * (uF + uF + uF * uF) ≤ mg mt et * (3 * uF) := Rat.mul_le_mul_of_nonneg_left c3 g3
    have c5 : mg mt et * (3 * uF) ≤ (mg m1 e1 + mg m2 e2) * 2 * (3 * uF) := Rat.mul_le_mul_of_nonneg_right hT (by grind)
    unfold sg
    cases τ <;> cases σ <;> simp only [Bool.false_eq_true, if_false, if_true] <;> grind
end Go.Sx

/- A fraction of small numbers as a floating number; a real film's matrix on the light behind it. -/
namespace Go.Sx
open Go Ieee
set_option linter.unusedVariables false
set_option linter.unusedSimpArgs false

theorem nr_exact {n : Int} (h : n.natAbs ≤ 2000000000) : ∃ m e, D.read (nrF n) = .number (decide (n < 0)) m e ∧ mg m e = (n.natAbs : Rat) := by
  have hl : n.natAbs = 0 ∨ (n.natAbs.log2 : Int) + ((0 : Nat) : Int) + 0 ≤ 1000 := by
    by_cases h0 : n.natAbs = 0
    · exact .inl h0
    · right
      have : n.natAbs.log2 < 31 := (Nat.log2_lt h0).2 (by omega)
      omega
  obtain ⟨m, e, r, v⟩ := write_exact (s := decide (n < 0)) (m := n.natAbs) (u := 0) (e := 0) (by omega) (by omega) hl
  refine ⟨m, e, ?_, ?_⟩
  · have : nrF n = D.write (.number (decide (n < 0)) (n.natAbs * 2 ^ 0) 0) := by rw [Nat.pow_zero, Nat.mul_one]; rfl
    rw [this]; exact r
  · rw [v, show (0 : Int) + ((0 : Nat) : Int) = 0 by omega, mg_int]
theorem pw_of_nat (n : Nat) (h1 : 1 ≤ n) (h2 : n ≤ 2000000000) : pw 0 ≤ (n : Rat) ∧ (n : Rat) ≤ pw 31 := by
  rw [pw_zero, show (31 : Int) = ((31 : Nat) : Int) from rfl, pw_nat]
  have : n ≤ 2 ^ 31 := by omega
  exact ⟨by exact_mod_cast h1, by exact_mod_cast this⟩
/-- A part of a fraction, near to what it stands for. -/
theorem fw_near {r d : Int} (hr : r.natAbs ≤ 2000000000) (hd : d.natAbs ≤ 2000000000) (hr0 : r ≠ 0) (hd0 : 0 < d) :
    ∃ m e, D.read (fwF r d) = .number (decide (r < 0)) m e ∧ m ≠ 0 ∧ Ap (Eu 4) (mg m e) ((r.natAbs : Rat) / (d : Rat)) := by
  obtain ⟨m, i, r1, v1⟩ := nr_exact hr
  obtain ⟨n, j, r2, v2⟩ := nr_exact hd
  rw [decide_eq_false (by omega)] at r2
  obtain ⟨a1, a2⟩ := pw_of_nat r.natAbs (by omega) hr
  obtain ⟨b1, b2⟩ := pw_of_nat d.natAbs (by omega) hd
  have hm : m ≠ 0 := fun h => by
    subst h; rw [mg_zero] at v1; rw [← v1] at a1; have := pw_pos 0; grind
  have hn : n ≠ 0 := fun h => by
    subst h; rw [mg_zero] at v2; rw [← v2] at b1; have := pw_pos 0; grind
  obtain ⟨w, m', e', hw, rw', hm', ap⟩ := div_ap r1 r2 hm hn (a := 0) (b := 31) (c := 0) (d := 31) (by rw [v1]; exact a1) (by rw [v1]; exact a2) (by rw [v2]; exact b1) (by rw [v2]; exact b2) (by omega) (by omega)
  have hwf : fwF r d = w := by unfold fwF; rw [hw]; rfl
  rw [v1, v2] at ap
  have hdd : ((d.natAbs : Nat) : Rat) = (d : Rat) := by
    have : ((d.natAbs : Nat) : Int) = d := by omega
    exact_mod_cast congrArg (fun z : Int => (z : Rat)) this
  rw [hdd] at ap b1
  have e0 : Eu 0 = 0 := by unfold Eu; rw [show ((0 : Nat) : Rat) = 0 from rfl, Rat.zero_mul]
  have hp := pw_pos 0
  have q := ap_quot (k := 0) (l := 0) (x := (r.natAbs : Rat)) (X := (r.natAbs : Rat)) (n := (d : Rat)) (N := (d : Rat)) (w := mg m' e') (Ap.refl (Eu_nn 0) (by grind)) (Ap.refl (Eu_nn 0) (by grind)) (by grind) (by grind) (by omega) (by omega) ap
  refine ⟨m', e', ?_, hm', q⟩
  rw [hwf, rw', Bool.xor_false]
theorem fw_zero {d : Int} (hd : d.natAbs ≤ 2000000000) (hd0 : 0 < d) : Zr (fwF 0 d) := by
  obtain ⟨m, i, r1, v1⟩ := nr_exact (n := 0) (by decide)
  obtain ⟨n, j, r2, v2⟩ := nr_exact hd
  have hm : m = 0 := by
    by_cases h : m = 0
    · exact h
    · have := mg_pos h i
      rw [v1] at this
      exact absurd this (by decide)
  subst hm
  have hn : n ≠ 0 := fun h => by
    subst h
    rw [mg_zero] at v2
    have h3 : ((d.natAbs : Nat) : Rat) = ((0 : Nat) : Rat) := v2.symm
    have h4 : d.natAbs = 0 := by exact_mod_cast h3
    omega
  obtain ⟨w, hw, z⟩ := div_zero_l ⟨_, _, r1⟩ r2 hn
  have hwf : fwF 0 d = w := by unfold fwF; rw [hw]; rfl
  rw [hwf]; exact z
/-! a real film's matrix on the light behind it -/
/-- A layer's matrix in rationals: an index x and a quarter. -/
def lyM (x : Rat) (qt : Int) : RM :=
  if qt = 0 then RM.one else if qt = 1 then ⟨0, 0, 0, 0, 0, 1 / x, x, 0⟩ else if qt = 2 then ⟨-1, 0, 0, -1, 0, 0, 0, 0⟩ else ⟨0, 0, 0, 0, 0, -(1 / x), -x, 0⟩
/-- Light of one phase only: X and Y, turned by r, with the sign σ. -/
def phV (r σ : Bool) (X Y : Rat) : RV := if r then ⟨0, sg σ X, 0, sg σ Y⟩ else ⟨sg σ X, 0, sg σ Y, 0⟩
def vRun (L : Nat → RM) (v : RV) : Nat → RV
  | 0 => v
  | k + 1 => (L k).app (vRun L v k)
theorem ph_step {x : Rat} {qt : Int} (h : 0 ≤ qt ∧ qt ≤ 3) (r σ : Bool) (X Y : Rat) : ∃ r' σ', (lyM x qt).app (phV r σ X Y) = if qt % 2 = 1 then phV r' σ' (Y / x) (x * X) else phV r' σ' X Y := by
  have hq : qt = 0 ∨ qt = 1 ∨ qt = 2 ∨ qt = 3 := by omega
  have hd : Y / x = 1 / x * Y := by grind
  rcases hq with rfl | rfl | rfl | rfl
  · exact ⟨r, σ, by simp [lyM, RM.app_one]⟩
  · rw [hd]
    refine ⟨!r, σ ^^ r, ?_⟩
    cases r <;> cases σ <;> simp [lyM, RM.app, phV, sg] <;> refine ⟨?_, ?_⟩ <;> grind
  · refine ⟨r, !σ, ?_⟩
    cases r <;> cases σ <;> simp [lyM, RM.app, phV, sg] <;> refine ⟨?_, ?_⟩ <;> grind
  · rw [hd]
    refine ⟨!r, !(σ ^^ r), ?_⟩
    cases r <;> cases σ <;> simp [lyM, RM.app, phV, sg] <;> refine ⟨?_, ?_⟩ <;> grind
theorem vRun_ph {N : Nat → Rat} {qt : Nat → Int} {b : Rat} : ∀ {L : Nat}, (∀ k, k < L → 0 ≤ qt k ∧ qt k ≤ 3) → ∃ r σ, vRun (fun k => lyM (N k) (qt k)) (phV false false 1 b) L = phV r σ (xRun N qt b L).1 (xRun N qt b L).2
  | 0, _ => ⟨false, false, rfl⟩
  | k + 1, h => by
    obtain ⟨r, σ, e⟩ := vRun_ph (N := N) (b := b) (L := k) fun j hj => h j (by omega)
    obtain ⟨r', σ', e'⟩ := ph_step (x := N k) (h k (by omega)) r σ (xRun N qt b k).1 (xRun N qt b k).2
    refine ⟨r', σ', ?_⟩
    rw [vRun, e, e']
    simp only [xRun]
    split <;> rfl
theorem prod_app {L : Nat → RM} {v : RV} {n : Nat} : (prodR L n).app v = vRun (fun k => L (n - 1 - k)) v n := by
  have key : ∀ j, j ≤ n → (prodR L (n - j)).app (vRun (fun k => L (n - 1 - k)) v j) = (prodR L n).app v := by
    intro j
    induction j with
    | zero => intro _; rfl
    | succ j ih =>
      intro hj
      have h := ih (by omega)
      obtain ⟨m, hm⟩ : ∃ m, n - j = m + 1 := ⟨n - j - 1, by omega⟩
      rw [hm, prodR, RM.app_mul] at h
      rw [show n - (j + 1) = m by omega, vRun, show n - 1 - j = m by omega]
      exact h
  have h := key n (Nat.le_refl _)
  rw [Nat.sub_self, prodR, RM.app_one] at h
  exact h.symm
end Go.Sx

/- Exact sums, the order of floating numbers, and small differences. -/
namespace Go.Sx
open Go Ieee
set_option linter.unusedVariables false
set_option linter.unusedSimpArgs false

theorem signed_val {s : Bool} {m : Nat} {i base : Int} (h : base ≤ i) : ((signed s m (i - base).toNat : Int) : Rat) * pw base = sg s (mg m i) := by
  have e := mg_shl m h
  unfold signed sg
  rw [← e]
  unfold mg
  cases s
  · simp only [Bool.false_eq_true, if_false]
    rfl
  · simp only [if_true]
    rw [Rat.intCast_neg, Rat.neg_mul]
    rfl
theorem natAbs_val (z : Int) (b : Bool) (hb : z < 0 → b = true) (hb2 : 0 < z → b = false) : sg b ((z.natAbs : Nat) : Rat) = (z : Rat) := by
  rcases Int.lt_trichotomy z 0 with h | h | h
  · rw [hb h]
    unfold sg
    rw [if_pos rfl]
    have : (z : Rat) = ((-(z.natAbs : Int) : Int) : Rat) := by congr 1; omega
    rw [this, Rat.intCast_neg]
    rfl
  · subst h
    unfold sg
    cases b <;> simp
  · rw [hb2 h]
    unfold sg
    rw [if_neg (by decide)]
    have : (z : Rat) = (((z.natAbs : Int)) : Rat) := by congr 1; omega
    rw [this]
    rfl
theorem sum_exact {s t : Bool} {m n : Nat} {i j : Int} : ∃ u c base, (Datum.number s m i).sum (.number t n j) = some (.number u c base) ∧ sg u (mg c base) = sg s (mg m i) + sg t (mg n j) := by
  have h1 : min i j ≤ i := Int.min_le_left _ _
  have h2 : min i j ≤ j := Int.min_le_right _ _
  refine ⟨_, _, min i j, rfl, ?_⟩
  rw [← signed_val (s := s) (m := m) h1, ← signed_val (s := t) (m := n) h2, ← Rat.add_mul, ← Rat.intCast_add]
  generalize signed s m (i - min i j).toNat + signed t n (j - min i j).toNat = z
  have h := natAbs_val z (if z = 0 then s && t else decide (z < 0)) (fun h => by rw [if_neg (by omega), decide_eq_true h]) (fun h => by rw [if_neg (by omega), decide_eq_false (by omega)])
  rw [← h]
  unfold mg sg
  split <;> grind
theorem order_lt {x y : Nat} {s t : Bool} {m n : Nat} {i j : Int} (hx : D.read x = .number s m i) (hy : D.read y = .number t n j) (h : sg s (mg m i) < sg t (mg n j)) : FloatKind.f64.format.order x y = some .lt := by
  have h1 : min i j ≤ i := Int.min_le_left _ _
  have h2 : min i j ≤ j := Int.min_le_right _ _
  show (D.read x).order (D.read y) = _
  rw [hx, hy]
  show some (compare (signed s m (i - min i j).toNat) (signed t n (j - min i j).toNat)) = _
  rw [← signed_val (s := s) (m := m) h1, ← signed_val (s := t) (m := n) h2] at h
  have hp := pw_pos (min i j)
  have h3 : ((signed s m (i - min i j).toNat : Int) : Rat) < ((signed t n (j - min i j).toNat : Int) : Rat) := by
    rcases Rat.le_total (a := ((signed t n (j - min i j).toNat : Int) : Rat)) (b := ((signed s m (i - min i j).toNat : Int) : Rat)) with hh | hh
    · have := Rat.mul_le_mul_of_nonneg_right hh (Rat.le_of_lt hp)
      grind
    · rcases Rat.le_iff_lt_or_eq.1 hh with hh | hh
      · exact hh
      · rw [hh] at h; grind
  have h4 : signed s m (i - min i j).toNat < signed t n (j - min i j).toNat := by exact_mod_cast h3
  congr 1
  exact Int.compare_eq_lt.2 h4
/-- A difference that is small. -/
theorem sub_small {x y : Nat} {s t : Bool} {m n : Nat} {i j k : Int} (hx : D.read x = .number s m i) (hy : D.read y = .number t n j) (h1 : sg s (mg m i) - sg t (mg n j) ≤ pw k) (h2 : sg t (mg n j) - sg s (mg m i) ≤ pw k) (hk : -1000 ≤ k) (hk2 : k ≤ 900) :
    ∃ w, floatBits .sub .f64 x y = some w ∧ Bd (k + 1) w := by
  obtain ⟨u, c, base, e, v⟩ := sum_exact (s := s) (t := !t) (m := m) (n := n) (i := i) (j := j)
  have hm : mg c base ≤ pw k := by
    have e1 : sg (!t) (mg n j) = -sg t (mg n j) := by unfold sg; cases t <;> simp <;> grind
    rw [e1] at v
    unfold sg at v h1 h2
    cases u <;> cases s <;> cases t <;> simp only [Bool.false_eq_true, if_false, if_true] at v h1 h2 <;> grind
  obtain ⟨m', e', r', b', _⟩ := write_bd (s := u) hk (by omega) hm
  refine ⟨_, ?_, u, m', e', r', b'⟩
  show ((D.read x).sum (D.read y).opposite).map D.write = _
  rw [hx, opp_read hy, e]
  rfl
def bil : Nat := 4472406533629990549
theorem bil_read : D.read bil = .number false 4835703278458517 (-82) := by decide +kernel
theorem bil_lo : pw (-30) < mg 4835703278458517 (-82) := by
  unfold mg
  rw [show (-30 : Int) = 52 + -82 by decide, pw_add]
  refine Rat.mul_lt_mul_of_pos_right ?_ (pw_pos _)
  rw [show (52 : Int) = ((52 : Nat) : Int) from rfl, pw_nat]
  exact_mod_cast (by decide : 2 ^ 52 < 4835703278458517)
theorem under_bil {w : Nat} (h : Bd (-30) w) : FloatKind.f64.format.order w bil = some .lt := by
  obtain ⟨s, m, e, r, b⟩ := h
  refine order_lt r bil_read ?_
  have h0 := mg_nn m e
  have h1 := bil_lo
  unfold sg
  cases s <;> simp only [Bool.false_eq_true, if_false, if_true] <;> grind
/-- Two numbers that are near enough: both differences are under the bound. -/
theorem near_within {x y : Nat} {s t : Bool} {m n : Nat} {i j : Int} (hx : D.read x = .number s m i) (hy : D.read y = .number t n j) (h1 : sg s (mg m i) - sg t (mg n j) ≤ pw (-31)) (h2 : sg t (mg n j) - sg s (mg m i) ≤ pw (-31)) :
    (∃ w, floatBits .sub .f64 x y = some w ∧ FloatKind.f64.format.order w bil = some .lt) ∧ ∃ w, floatBits .sub .f64 y x = some w ∧ FloatKind.f64.format.order w bil = some .lt := by
  obtain ⟨w, hw, b⟩ := sub_small hx hy h1 h2 (by omega) (by omega)
  obtain ⟨w', hw', b'⟩ := sub_small hy hx h2 h1 (by omega) (by omega)
  exact ⟨⟨w, hw, under_bil b⟩, w', hw', under_bil b'⟩
end Go.Sx

/- A clear film: its wide answer is near to the exact one. -/
namespace Go.Sx
open Go Ieee
set_option linter.unusedVariables false
set_option linter.unusedSimpArgs false

theorem unit1_im : imR (unitOf 1) = 1 := by decide +kernel
theorem unit3_im : imR (unitOf 3) = -1 := by decide +kernel
theorem minQ_re' : reR (-1, 0, 1) = -1 := by decide +kernel
theorem one_re' : reR (1, 0, 1) = 1 := by decide +kernel
theorem minQ_im' : imR (-1, 0, 1) = 0 := by decide +kernel
theorem one_im' : imR (1, 0, 1) = 0 := by decide +kernel
theorem nil_re' : reR nil1 = 0 := by decide +kernel
theorem nil_im' : imR nil1 = 0 := by decide +kernel
theorem lay_M {x : Q} {qt : Int} {L : Nat → Q} (h : ∀ i, i < 4 → layD x qt i = some (L i)) (hx : imR x = 0) (hx0 : reR x ≠ 0) (hq : 0 ≤ qt ∧ qt ≤ 3) : ofQ L = lyM (reR x) qt := by
  have h0 := h 0 (by omega)
  have h1 := h 1 (by omega)
  have h2 := h 2 (by omega)
  have h3 := h 3 (by omega)
  have hc : qt = 0 ∨ qt = 1 ∨ qt = 2 ∨ qt = 3 := by omega
  unfold layD at h0 h1 h2 h3
  rcases hc with rfl | rfl | rfl | rfl
  · simp only [if_true, Option.some.injEq] at h0 h1 h2 h3
    unfold ofQ
    rw [← h0, ← h1, ← h2, ← h3]
    unfold lyM RM.one
    simp only [one_re', one_im', nil_re', nil_im', if_true]
  · simp only [show ¬ (1 : Int) = 0 by decide, show ¬ (1 : Int) = 2 by decide, if_false, Option.some.injEq] at h0 h1 h2 h3
    obtain ⟨a1, a2⟩ := over_val h1
    obtain ⟨b1, b2⟩ := times_val h2
    rw [unitQ_re, hx] at a1
    rw [unit1_im, hx] at a2
    rw [unitQ_re, hx] at b1
    rw [unitQ_re, unit1_im, hx] at b2
    have c1 : reR (L 1) = 0 := (Rat.mul_eq_zero.1 (show reR (L 1) * reR x = 0 by grind)).resolve_right hx0
    have c2 : imR (L 1) = 1 / reR x := by grind
    unfold ofQ lyM
    rw [← h0, ← h3, nil_re', nil_im', c1, c2, b1, b2]
    simp only [show ¬ (1 : Int) = 0 by decide, if_false, if_true]
    refine RM.eq rfl rfl ?_ rfl rfl rfl ?_ rfl <;> grind
  · simp only [show ¬ (2 : Int) = 0 by decide, if_false, if_true, Option.some.injEq] at h0 h1 h2 h3
    unfold ofQ
    rw [← h0, ← h1, ← h2, ← h3]
    unfold lyM
    simp only [show ¬ (2 : Int) = 0 by decide, show ¬ (2 : Int) = 1 by decide, if_false, if_true, minQ_re', minQ_im', nil_re', nil_im']
  · simp only [show ¬ (3 : Int) = 0 by decide, show ¬ (3 : Int) = 2 by decide, if_false, Option.some.injEq] at h0 h1 h2 h3
    obtain ⟨a1, a2⟩ := over_val h1
    obtain ⟨b1, b2⟩ := times_val h2
    rw [unitQ_re, hx] at a1
    rw [unit3_im, hx] at a2
    rw [unitQ_re, hx] at b1
    rw [unitQ_re, unit3_im, hx] at b2
    have c1 : reR (L 1) = 0 := (Rat.mul_eq_zero.1 (show reR (L 1) * reR x = 0 by grind)).resolve_right hx0
    have c2 : imR (L 1) = -(1 / reR x) := by grind
    unfold ofQ lyM
    rw [← h0, ← h3, nil_re', nil_im', c1, c2, b1, b2]
    simp only [show ¬ (3 : Int) = 0 by decide, show ¬ (3 : Int) = 1 by decide, show ¬ (3 : Int) = 2 by decide, if_false]
    refine RM.eq rfl rfl ?_ rfl rfl rfl ?_ rfl <;> grind
/-- What a clear film throws back, exactly. -/
theorem exact_refl {m : Nat → Q} {t : Bool} {a b z : Q} {X : Nat → Rat} {qt : Nat → Int} {L : Nat} {P : Rat × Rat} (h : reflQ m t a b = some z) (hm : ofQ m = prodR (fun k => lyM (X k) (qt k)) L) (hq : ∀ k, k < L → 0 ≤ qt k ∧ qt k ≤ 3)
    (ha : imR a = 0) (hb : imR b = 0) (hP : xRun (fun k => X (L - 1 - k)) (fun k => qt (L - 1 - k)) (reR b) L = P) (hpos : 0 < reR a * P.1 + P.2) :
    reR z = (reR a * P.1 - P.2) / (reR a * P.1 + P.2) ∧ imR z = 0 := by
  obtain ⟨p, c, s, d, h1, h2, h3, h4, h5⟩ := refl_some h
  obtain ⟨e1, e2, e3, e4⟩ := ends_val h1
  obtain ⟨s1, s2⟩ := add_val h2
  obtain ⟨d1, d2⟩ := less_val h4
  obtain ⟨o1, o2⟩ := over_val h5
  have happ : (ofQ m).app (phV false false 1 (reR b)) = vRun (fun k => lyM (X (L - 1 - k)) (qt (L - 1 - k))) (phV false false 1 (reR b)) L := by
    rw [hm]
    exact prod_app
  obtain ⟨r, σ, hv⟩ := vRun_ph (N := fun k => X (L - 1 - k)) (qt := fun k => qt (L - 1 - k)) (b := reR b) (L := L) fun k hk => hq _ (by omega)
  rw [hv, hP] at happ
  have hph : phV false false 1 (reR b) = ⟨1, 0, reR b, 0⟩ := by simp [phV, sg]
  rw [hph] at happ
  unfold RM.app ofQ at happ
  dsimp only at happ
  rw [ha, hb] at e1 e2
  rw [hb] at e3 e4
  generalize reR z = zr at *
  generalize imR z = zi at *
  generalize reR a = A at *
  generalize reR b = B at *
  obtain ⟨P1, P2⟩ := P
  dsimp only at hpos happ ⊢
  have hne : A * P1 + P2 ≠ 0 := by grind
  have fin : ∀ S : Rat, S = A * P1 + P2 → zr * S = A * P1 - P2 → zi * S = 0 → zr = (A * P1 - P2) / (A * P1 + P2) ∧ zi = 0 := by
    intro S hS k1 k2
    subst hS
    refine ⟨by grind, (Rat.mul_eq_zero.1 k2).resolve_right hne⟩
  unfold phV at happ
  cases r
  · simp only [Bool.false_eq_true, if_false, RV.mk.injEq] at happ
    obtain ⟨f1, f2, f3, f4⟩ := happ
    have g1 : reR p = A * sg σ P1 := by rw [e1, ← f1]; grind
    have g2 : imR p = 0 := by rw [e2]; grind
    have g3 : reR c = sg σ P2 := by rw [e3, ← f3]; grind
    have g4 : imR c = 0 := by rw [e4]; grind
    rw [s1, s2, d1, g1, g2, g3, g4] at o1
    rw [s1, s2, d2, g1, g2, g3, g4] at o2
    unfold sg at o1 o2
    refine fin _ rfl ?_ ?_ <;> cases σ <;> simp only [Bool.false_eq_true, if_false, if_true] at o1 o2 <;> grind
  · simp only [if_true, RV.mk.injEq] at happ
    obtain ⟨f1, f2, f3, f4⟩ := happ
    have g1 : reR p = 0 := by rw [e1]; grind
    have g2 : imR p = A * sg σ P1 := by rw [e2, ← f2]; grind
    have g3 : reR c = 0 := by rw [e3]; grind
    have g4 : imR c = sg σ P2 := by rw [e4, ← f4]; grind
    rw [s1, s2, d1, g1, g2, g3, g4] at o1
    rw [s1, s2, d2, g1, g2, g3, g4] at o2
    unfold sg at o1 o2
    refine fin _ rfl ?_ ?_ <;> cases σ <;> simp only [Bool.false_eq_true, if_false, if_true] at o1 o2 <;> grind
/-- A clear index. -/
def clearI (v : Q) : Prop := validQ v = true ∧ v.2.1 = 0 ∧ 0 < v.1 ∧ v.1 ≤ 100 ∧ v.2.2 ≤ 100
theorem clear_re {v : Q} (h : clearI v) : reR v = ((v.1.natAbs : Nat) : Rat) / (v.2.2 : Rat) := by
  obtain ⟨_, _, h3, _⟩ := h
  unfold reR
  congr 1
  have : (v.1 : Rat) = (((v.1.natAbs : Int)) : Rat) := by congr 1; omega
  rw [this]
  rfl
theorem clear_im {v : Q} (h : clearI v) : imR v = 0 := by
  unfold imR
  rw [h.2.1]
  show (0 : Rat) / _ = 0
  rw [Rat.div_def, Rat.zero_mul]
theorem clear_rg {v : Q} (h : clearI v) : Rg 7 (reR v) := by
  obtain ⟨h1, _, h3, h4, h5⟩ := h
  have hd := valid_den h1
  have n1 : (1 : Rat) ≤ (v.1 : Rat) := by exact_mod_cast (show (1 : Int) ≤ v.1 by omega)
  have n2 : (v.1 : Rat) ≤ 100 := by exact_mod_cast h4
  have m1 : (1 : Rat) ≤ (v.2.2 : Rat) := by exact_mod_cast hd
  have m2 : (v.2.2 : Rat) ≤ 100 := by exact_mod_cast h5
  have p7 : pw 7 = 128 := by
    rw [show (7 : Int) = ((7 : Nat) : Int) from rfl, pw_nat]; rfl
  have pm : pw (-7) * 128 = 1 := by
    rw [← p7, ← pw_add, show (-7 : Int) + 7 = 0 from rfl, pw_zero]
  have p0 := pw_pos (-7)
  have hX : reR v * (v.2.2 : Rat) = (v.1 : Rat) := by unfold reR; grind
  generalize reR v = X at *
  generalize (v.1 : Rat) = n at *
  generalize (v.2.2 : Rat) = d at *
  have hX0 : 0 ≤ X := by
    rcases Rat.le_total (a := 0) (b := X) with h | h
    · exact h
    · have := Rat.mul_le_mul_of_nonneg_right h (show 0 ≤ d by grind)
      grind
  have t1 : X * d ≤ X * 100 := Rat.mul_le_mul_of_nonneg_left m2 hX0
  have t2 : X * 1 ≤ X * d := Rat.mul_le_mul_of_nonneg_left m1 hX0
  refine ⟨?_, ?_⟩
  · rw [show -(7 : Int) = -7 from rfl]
    grind
  · rw [p7]; grind
theorem clear_sh {v : Q} (h : clearI v) : Sh' false false (reR v) 4 (idxF v) := by
  have hr := clear_re h
  obtain ⟨h1, h2, h3, h4, h5⟩ := h
  have hd := valid_den h1
  obtain ⟨m, e, r, hm, ap⟩ := fw_near (r := v.1) (d := v.2.2) (by omega) (by omega) (by omega) (by omega)
  rw [decide_eq_false (by omega)] at r
  refine ⟨⟨m, e, r, hm, by rw [hr]; exact ap⟩, ?_⟩
  show Zr (fwF v.2.1 v.2.2)
  rw [h2]
  exact fw_zero (by omega) (by omega)
/-- A real fraction of at most one, as a floating number. -/
theorem fw_abs {z : Q} (hv : validQ z = true) (h1 : reR z ≤ 1) (h2 : -1 ≤ reR z) : ∃ s m e, D.read (fwF z.1 z.2.2) = .number s m e ∧ sg s (mg m e) - reR z ≤ pw (-42) ∧ reR z - sg s (mg m e) ≤ pw (-42) := by
  obtain ⟨v1, v2, v3, v4⟩ := valid_bounds hv
  have hp := pw_pos (-42)
  by_cases h0 : z.1 = 0
  · obtain ⟨s, e, r⟩ := fw_zero (d := z.2.2) (by omega) (by omega)
    have hz : reR z = 0 := by
      unfold reR
      rw [h0]
      show (0 : Rat) / _ = 0
      rw [Rat.div_def, Rat.zero_mul]
    refine ⟨s, 0, e, by rw [h0]; exact r, ?_, ?_⟩ <;> rw [hz, mg_zero] <;> unfold sg <;> cases s <;> simp only [Bool.false_eq_true, if_false, if_true] <;> grind
  · obtain ⟨m, e, r, hm, ap⟩ := fw_near (r := z.1) (d := z.2.2) (by omega) (by omega) h0 (by omega)
    refine ⟨_, m, e, r, ?_⟩
    have hs : sg (decide (z.1 < 0)) ((z.1.natAbs : Nat) : Rat) = (z.1 : Rat) := natAbs_val z.1 _ (fun h => decide_eq_true h) (fun h => decide_eq_false (by omega))
    have hs2 : sg (decide (z.1 < 0)) (((z.1.natAbs : Nat) : Rat) / (z.2.2 : Rat)) = reR z := by
      unfold reR
      rw [← hs]
      unfold sg
      split <;> grind
    have hE : Eu 4 = pw (-42) := by
      unfold Eu
      rw [show (-42 : Int) = 2 + -44 from rfl, pw_add]
      rfl
    rw [hE] at ap
    obtain ⟨a1, a2⟩ := ap
    generalize ((z.1.natAbs : Nat) : Rat) / (z.2.2 : Rat) = Y at *
    generalize decide (z.1 < 0) = s at *
    have hY : Y ≤ 1 ∧ -1 ≤ Y := by
      unfold sg at hs2
      cases s <;> simp only [Bool.false_eq_true, if_false, if_true] at hs2 <;> grind
    have t1 : pw (-42) * Y ≤ pw (-42) * 1 := Rat.mul_le_mul_of_nonneg_left hY.1 (Rat.le_of_lt hp)
    rw [← hs2]
    unfold sg
    cases s <;> simp only [Bool.false_eq_true, if_false, if_true] <;> grind
end Go.Sx

/- The law on wide films, but for the walk. -/
namespace Go.Sx
open Go Ieee
set_option linter.unusedVariables false
set_option linter.unusedSimpArgs false

/-- Both differences are under the bound. -/
def Within (x y : Nat) : Prop := (∃ w, floatBits .sub .f64 x y = some w ∧ FloatKind.f64.format.order w bil = some .lt) ∧ ∃ w, floatBits .sub .f64 y x = some w ∧ FloatKind.f64.format.order w bil = some .lt
theorem zr_within {x y : Nat} (hx : Zr x) (hy : Zr y) : Within x y := by
  obtain ⟨s, i, r1⟩ := hx
  obtain ⟨t, j, r2⟩ := hy
  have hp := pw_pos (-31)
  refine near_within r1 r2 ?_ ?_ <;> rw [mg_zero, mg_zero] <;> unfold sg <;> cases s <;> cases t <;> simp only [Bool.false_eq_true, if_false, if_true] <;> grind
theorem half_sum : pw (-34) + pw (-42) ≤ pw (-31) := by
  have h1 : pw (-31) = 8 * pw (-34) := by
    rw [show (-31 : Int) = 3 + -34 from rfl, pw_add]
    rfl
  have h2 : pw (-42) ≤ pw (-34) := pw_le (by omega)
  have h3 := pw_pos (-34)
  grind
theorem share_one {D Q : Rat} (hD : 0 < D) (hQ : 0 < Q) : (D - Q) / (D + Q) ≤ 1 ∧ -1 ≤ (D - Q) / (D + Q) := by
  have hS : 0 < D + Q := by grind
  have e : (D - Q) / (D + Q) * (D + Q) = D - Q := by grind
  generalize (D - Q) / (D + Q) = T at *
  constructor
  · rcases Rat.le_total (a := T) (b := 1) with h | h
    · exact h
    · have := Rat.mul_le_mul_of_nonneg_right h (Rat.le_of_lt hS)
      grind
  · rcases Rat.le_total (a := -1) (b := T) with h | h
    · exact h
    · have := Rat.mul_le_mul_of_nonneg_right h (Rat.le_of_lt hS)
      grind
theorem wide_law {x : Nat → Q} {qt : Nat → Int} {L : Nat} {a b z : Q} {m : Nat → Q} {t : Bool} {v : Value} (hL : L ≤ 8) (hx : ∀ k, k < L → clearI (x k)) (hq : ∀ k, k < L → 0 ≤ qt k ∧ qt k ≤ 3) (ha : clearI a) (hb : clearI b)
    (hz : reflQ m t a b = some z) (hm : ofQ m = prodR (fun k => lyM (reR (x k)) (qt k)) L) (hv : WideRes (fun k => idxF (x (L - 1 - k))) (fun k => qt (L - 1 - k)) (idxF a) (idxF b) L v) :
    ∃ e f, v = .complex .f64 e f ∧ Within e (fwF z.1 z.2.2) ∧ Within f (fwF z.2.1 z.2.2) := by
  have hn : ∀ k, k < L → Sh' false false (reR (x (L - 1 - k))) 4 (idxF (x (L - 1 - k))) ∧ Rg 7 (reR (x (L - 1 - k))) := fun k hk => ⟨clear_sh (hx _ (by omega)), clear_rg (hx _ (by omega))⟩
  obtain ⟨e, f, s, me, ee, hve, zf, re, w1, w2⟩ := wide_near (N := fun k => reR (x (L - 1 - k))) hL hn (clear_sh ha) (clear_rg ha) (clear_sh hb) (clear_rg hb) hv
  obtain ⟨_, _, _, _, g1, g2⟩ := run_sh (N := fun k => reR (x (L - 1 - k))) (qt := fun k => qt (L - 1 - k)) hL hn (clear_sh hb) (clear_rg hb) L (Nat.le_refl _)
  have p1 := g1.pos
  have p2 := g2.pos
  have pa := (clear_rg ha).pos
  have pD := Rat.mul_pos pa p1
  obtain ⟨z1, z2⟩ := exact_refl (X := fun k => reR (x k)) (qt := qt) hz hm hq (clear_im ha) (clear_im hb) rfl (by grind)
  obtain ⟨_, _, _, _, _, _, _, _, h5⟩ := refl_some hz
  have zv := (over_args h5).2.2.2
  have hd := valid_den zv
  have hd0 : (z.2.2 : Rat) ≠ 0 := by
    intro h
    have : z.2.2 = 0 := by exact_mod_cast h
    omega
  have zi : z.2.1 = 0 := by
    unfold imR at z2
    have h : ((z.2.1 : Int) : Rat) = ((0 : Int) : Rat) := by
      have : (z.2.1 : Rat) / (z.2.2 : Rat) * (z.2.2 : Rat) = (z.2.1 : Rat) := by grind
      rw [z2, Rat.zero_mul] at this
      exact this.symm
    exact_mod_cast h
  obtain ⟨s1, s2⟩ := share_one pD p2
  obtain ⟨v1, v2, v3, v4⟩ := valid_bounds zv
  obtain ⟨t, mz, ez, rz, u1, u2⟩ := fw_abs zv (by rw [z1]; exact s1) (by rw [z1]; exact s2)
  rw [z1] at u1 u2
  refine ⟨e, f, hve, near_within re rz ?_ ?_, ?_⟩
  · have := half_sum; grind
  · have := half_sum; grind
  · rw [zi]
    exact zr_within zf (fw_zero (by omega) (by omega))
end Go.Sx

/- Steps over floating numbers. -/
namespace Go.Sx
open Go Ieee
set_option linter.unusedVariables false
set_option linter.unusedSimpArgs false

def cxv (z : CF) : Value := .complex .f64 z.1 z.2
theorem fa_step {P : Program} {specs : List Spec} {op : BinOp} {ex ey : Ex} {rest : List Evn} {env : List Value} {K : List Value → Prop} {x y r : Nat} (hx : ev env ex = .float .f64 x) (hy : ev env ey = .float .f64 y) (h : floatBits op .f64 x y = some r)
    (hk : evSat P specs rest (env ++ [.float .f64 r]) K) : evSat P specs (.prim (.fa op .f64) [ex, ey] :: rest) env K := by
  intro v hv
  simp only [List.map_cons, List.map_nil, hx, hy] at hv
  rw [may_fa h hv]
  exact hk
theorem ca_step {P : Program} {specs : List Spec} {op : BinOp} (hop : op = .add ∨ op = .sub) {ex ey : Ex} {rest : List Evn} {env : List Value} {K : List Value → Prop} {x y : CF} {r : CF} (hx : ev env ex = cxv x) (hy : ev env ey = cxv y) (h : cSumBits op .f64 x.1 x.2 y.1 y.2 = some r)
    (hk : evSat P specs rest (env ++ [cxv r]) K) : evSat P specs (.prim (.ca op .f64) [ex, ey] :: rest) env K := by
  intro v hv
  simp only [List.map_cons, List.map_nil, hx, hy] at hv
  rw [may_csum hop (re := r.1) (im := r.2) h hv]
  exact hk
/-- The parts of a product. -/
theorem cmul_parts {a b c d re im : Nat} (h : cMulBits a b c d = some (re, im)) : ∃ ac bd ad bc, floatBits .mul .f64 a c = some ac ∧ floatBits .mul .f64 b d = some bd ∧ floatBits .sub .f64 ac bd = some re ∧ floatBits .mul .f64 a d = some ad ∧ floatBits .mul .f64 b c = some bc ∧ floatBits .add .f64 ad bc = some im := by
  unfold cMulBits at h
  obtain ⟨ac, h1, h⟩ := bind_some h
  obtain ⟨bd, h2, h⟩ := bind_some h
  obtain ⟨x, h3, h⟩ := bind_some h
  obtain ⟨ad, h4, h⟩ := bind_some h
  obtain ⟨bc, h5, h⟩ := bind_some h
  obtain ⟨y, h6, h⟩ := bind_some h
  cases h
  exact ⟨ac, bd, ad, bc, h1, h2, h3, h4, h5, h6⟩
/-! contracts -/
def wTimesSpec : Spec := fun ins K => ∃ x y r : CF, ins = [cxv x, cxv y] ∧ cMulBits x.1 x.2 y.1 y.2 = some r ∧ K [cxv r]
def wOverSpec : Spec := fun ins K => ∃ x y : CF, ins = [cxv x, cxv y] ∧ ∀ v, (∃ P, Pr.may P (.ca .quo .f64) ins v) → K [v]
def fWideSpec : Spec := fun ins K => (validQ (q3 ins 0) = true → K [cxv (idxF (q3 ins 0)), .bool true]) ∧ (validQ (q3 ins 0) = false → K [cxv (0, 0), .bool false])
theorem fWide_parts {a b c : Int} (h : validQ (a, b, c) = true) : floatBits .quo .f64 (nrF a) (nrF c) = some (idxF (a, b, c)).1 ∧ floatBits .quo .f64 (nrF b) (nrF c) = some (idxF (a, b, c)).2 := by
  obtain ⟨b1, b2, b3⟩ := valid_bounds h
  dsimp only at b1 b2 b3
  exact ⟨(fw_facts (by omega) (by omega) (by omega)).1, (fw_facts (by omega) (by omega) (by omega)).1⟩
/-- One layer, told of complex numbers. -/
theorem wq_use {x y : CF} (h : cQuoBits x.1 x.2 y.1 y.2 = some (wQuo x y)) {K : List Value → Prop} (hk : K [cxv (wQuo x y)]) : wOverSpec [cxv x, cxv y] K := by
  refine ⟨x, y, rfl, ?_⟩
  rintro v ⟨P, hv⟩
  rw [may_cquo (re := (wQuo x y).1) (im := (wQuo x y).2) h hv]
  exact hk
theorem wm_use {x y : CF} (h : cMulBits x.1 x.2 y.1 y.2 = some (wMul x y)) {K : List Value → Prop} (hk : K [cxv (wMul x y)]) : wTimesSpec [cxv x, cxv y] K := ⟨x, y, _, rfl, h, hk⟩
/-- What the steps of an odd layer give. -/
def OddOk (n p q : CF) : Prop := cMulBits iF.1 iF.2 q.1 q.2 = some (wMul iF q) ∧ cQuoBits (wMul iF q).1 (wMul iF q).2 n.1 n.2 = some (wQuo (wMul iF q) n) ∧ cMulBits iF.1 iF.2 n.1 n.2 = some (wMul iF n) ∧ cMulBits (wMul iF n).1 (wMul iF n).2 p.1 p.2 = some (wMul (wMul iF n) p)
def l8wSpec : Spec := fun ins K => ∃ p q : CF, ins.getD 4 undef = cxv p ∧ ins.getD 5 undef = cxv q ∧ validQ (q3 ins 0) = true ∧ (0 ≤ i0 ins 3 ∧ i0 ins 3 ≤ 3) ∧ OddOk (idxF (q3 ins 0)) p q ∧ K [cxv (wStep (idxF (q3 ins 0)) (i0 ins 3) p q).1, cxv (wStep (idxF (q3 ins 0)) (i0 ins 3) p q).2]
theorem sat_ite {P : Program} {specs : List Spec} {c : Ex} {x y : Tr} {env : List Value} {N : List (List Value → Prop)} {K : List Value → Prop} {b : Bool} (hc : ev env c = .bool b) (h1 : b = true → sat P specs x env N K) (h2 : b = false → sat P specs y env N K) : sat P specs (.ite c x y) env N K := by
  refine ⟨fun h => h1 ?_, fun h => h2 ?_⟩
  · rw [hc] at h; exact Value.bool.inj h
  · rw [hc] at h; exact Value.bool.inj h
theorem sat_ite1 {P : Program} {specs : List Spec} {c : Ex} {x y : Tr} {env : List Value} {N : List (List Value → Prop)} {K : List Value → Prop} (hc : ev env c = .bool true) (h1 : sat P specs x env N K) : sat P specs (.ite c x y) env N K := sat_ite hc (fun _ => h1) fun h => (by cases h)
theorem sat_ite0 {P : Program} {specs : List Spec} {c : Ex} {x y : Tr} {env : List Value} {N : List (List Value → Prop)} {K : List Value → Prop} (hc : ev env c = .bool false) (h1 : sat P specs y env N K) : sat P specs (.ite c x y) env N K := sat_ite hc (fun h => (by cases h)) fun _ => h1
theorem wrun_step {n : Nat → CF} {qt : Nat → Int} {b : CF} {k : Nat} {v : CF} {t : Int} (h1 : n k = v) (h2 : qt k = t) : wRun n qt b (k + 1) = wStep v t (wRun n qt b k).1 (wRun n qt b k).2 := by
  subst h1 h2
  rfl
/-! equal, as laws look at them -/
theorem ord_nan {x : Nat} (h : Op.Complex.isNaN x = true) (y : Nat) : FloatKind.f64.format.order x y = none := by
  obtain ⟨s, t, hr⟩ := nan_read h
  show (D.read x).order (D.read y) = none
  rw [hr]
  cases D.read y <;> rfl
theorem ord_self {x : Nat} (h : Op.Complex.isNaN x = false) : FloatKind.f64.format.order x x = some .eq := by
  show (D.read x).order (D.read x) = some .eq
  cases hr : D.read x with
  | nan s t =>
    have h : (D.read x).isNaN = false := h
    rw [hr] at h
    cases h
  | infinity s => cases s <;> rfl
  | number s m e =>
    show some (compare (signed s m _) (signed s m _)) = _
    congr 1
    exact Int.compare_eq_eq.2 rfl
theorem ord_zero {x : Nat} (h : FloatKind.f64.format.order x 0 = some .eq) : ∃ s e, D.read x = .number s 0 e := by
  have h : (D.read x).order (D.read 0) = some .eq := h
  rw [show D.read 0 = .number false 0 D.leastPlace from read_sub false (by decide)] at h
  cases hr : D.read x with
  | nan s t => rw [hr] at h; cases h
  | infinity s => rw [hr] at h; cases s <;> cases h
  | number s m e =>
    rw [hr] at h
    have h : some (compare (signed s m (e - min e D.leastPlace).toNat) (signed false 0 (D.leastPlace - min e D.leastPlace).toNat)) = some .eq := h
    have h2 := Int.compare_eq_eq.1 (Option.some.inj h)
    refine ⟨s, e, ?_⟩
    have hm : m = 0 := by
      unfold signed at h2
      rw [Nat.zero_shiftLeft] at h2
      have : m <<< (e - min e D.leastPlace).toNat = 0 := by
        generalize m <<< (e - min e D.leastPlace).toNat = z at h2
        cases s <;> simp only [Bool.false_eq_true, if_false, if_true] at h2 <;> omega
      rw [Nat.shiftLeft_eq] at this
      rcases Nat.mul_eq_zero.1 this with h | h
      · exact h
      · exact absurd h (Nat.pos_iff_ne_zero.1 (Nat.two_pow_pos _))
    rw [hm]
theorem one_over_zero {x : Nat} {s : Bool} {e : Int} (h : D.read x = .number s 0 e) : ∃ r, floatBits .quo .f64 4607182418800017408 x = some r := by
  refine ⟨D.write (.infinity (false ^^ s)), ?_⟩
  show ((D.read 4607182418800017408).quotient 54 (D.read x)).map D.write = _
  rw [h, show D.read 4607182418800017408 = .number false 4503599627370496 (-52) by decide +kernel]
  rfl
end Go.Sx

/- Writing into a format of 32 or 64 bits: the error is half a unit at most. -/
namespace Go.Sx
open Go Ieee
set_option linter.unusedVariables false
set_option linter.unusedSimpArgs false

abbrev S32 : Format := Ieee.single
theorem cut_near (s : Bool) {m : Nat} {e : Int} (hm : m ≠ 0) (l : Int) : ∃ kept : Nat, Toward.even.cut s (m <<< (e - l).toNat) (l - e).toNat = kept ∧ mg kept l ≤ mg m e + pw (l - 1) ∧ mg m e ≤ mg kept l + pw (l - 1) := by
  have hp1 := pw_pos (l - 1)
  rcases Int.lt_or_le e l with hl | hl
  · have e1 : (e - l).toNat = 0 := by omega
    rw [e1, Nat.shiftLeft_zero]
    generalize hd : (l - e).toNat = d
    have hde : l = d + e := by omega
    have hp : pw l = ((2 ^ d : Nat) : Rat) * pw e := by rw [hde, pw_add, pw_nat]
    have hq : 2 * pw (l - 1) = pw l := by rw [← pw_succ]; congr 1; omega
    rcases Nat.lt_or_ge (m.log2 + 2) d with hb | hb
    · refine ⟨0, ?_, ?_, ?_⟩
      · have h4 : m < 2 ^ (m.log2 + 1) := Nat.lt_log2_self
        unfold Toward.cut
        simp only [Nat.one_shiftLeft]
        rw [Nat.min_eq_right (Nat.le_of_lt hb)]
        have hp : 2 ^ (m.log2 + 2) = 2 * 2 ^ (m.log2 + 1) := by rw [Nat.pow_succ, Nat.mul_comm]
        generalize hg : 2 ^ (m.log2 + 1) = g at *
        rw [hp]
        have q1 : m / (2 * g) = 0 := Nat.div_eq_of_lt (by omega)
        have q2 : m % (2 * g) = m := Nat.mod_eq_of_lt (by omega)
        rw [q1, q2]
        have c1 : decide (2 * g < 2 * m) = false := by simp; omega
        have c2 : (2 * g == 2 * m) = false := by simp; omega
        rw [c1, c2]
        rfl
      · rw [mg_zero]
        have := mg_nn m e
        grind
      · rw [mg_zero]
        have h1 := (mg_log hm e).2
        have h2 : pw (m.log2 + e + 1) ≤ pw (l - 1) := pw_le (by omega)
        grind
    · obtain ⟨low, hlow, hc⟩ := cut_even (n := m) (drop := d) (neg := s) hb
      have hdm := Nat.div_add_mod m (2 ^ d)
      have hml := Nat.mod_lt m (show 0 < 2 ^ d from Nat.two_pow_pos d)
      rw [← hlow] at hdm
      have hme : (m : Rat) = ((2 ^ d : Nat) : Rat) * (low : Rat) + ((m % 2 ^ d : Nat) : Rat) := by
        rw [← Rat.natCast_mul, ← Rat.natCast_add, hdm]
      have hpe := pw_pos e
      have hpe0 := Rat.le_of_lt hpe
      have r0 : (0 : Rat) ≤ ((m % 2 ^ d : Nat) : Rat) := by exact_mod_cast Nat.zero_le _
      have rl : ((m % 2 ^ d : Nat) : Rat) ≤ ((2 ^ d : Nat) : Rat) := by exact_mod_cast Nat.le_of_lt hml
      rcases hc with ⟨hk, hr⟩ | ⟨hk, hr⟩
      · refine ⟨low, hk, ?_, ?_⟩
        · unfold mg
          rw [hp, hme]
          have := Rat.mul_nonneg r0 hpe0
          grind
        · unfold mg
          rw [hme]
          have hr' : 2 * ((m % 2 ^ d : Nat) : Rat) ≤ ((2 ^ d : Nat) : Rat) := by
            have : ((2 * (m % 2 ^ d) : Nat) : Rat) ≤ ((2 ^ d : Nat) : Rat) := by exact_mod_cast hr
            rwa [Rat.natCast_mul] at this
          have := Rat.mul_le_mul_of_nonneg_right hr' hpe0
          rw [hp] at hq ⊢
          grind
      · refine ⟨low + 1, hk, ?_, ?_⟩
        · unfold mg
          rw [hme, Rat.natCast_add]
          have hr' : ((2 ^ d : Nat) : Rat) ≤ 2 * ((m % 2 ^ d : Nat) : Rat) := by
            have : ((2 ^ d : Nat) : Rat) ≤ ((2 * (m % 2 ^ d) : Nat) : Rat) := by exact_mod_cast hr
            rwa [Rat.natCast_mul] at this
          have := Rat.mul_le_mul_of_nonneg_right hr' hpe0
          have h1 : ((1 : Nat) : Rat) = 1 := rfl
          rw [h1]
          rw [hp] at hq ⊢
          grind
        · unfold mg
          rw [hp, hme, Rat.natCast_add]
          have := Rat.mul_le_mul_of_nonneg_right rl hpe0
          have h1 : ((1 : Nat) : Rat) = 1 := rfl
          rw [h1]
          grind
  · have e2 : (l - e).toNat = 0 := by omega
    rw [e2, Nat.shiftLeft_eq]
    obtain ⟨low, rfl, hc⟩ := cut_even (n := m * 2 ^ (e - l).toNat) (drop := 0) (neg := s) (by omega)
    have hk : Toward.even.cut s (m * 2 ^ (e - l).toNat) 0 = m * 2 ^ (e - l).toNat := by
      rcases hc with ⟨h, _⟩ | ⟨_, h⟩
      · rw [h]; simp
      · simp [Nat.mod_one] at h
    have hv : mg (m * 2 ^ (e - l).toNat) l = mg m e := by
      rw [← mg_shift m (e - l).toNat e]; congr 1; omega
    refine ⟨_, hk, ?_, ?_⟩ <;> rw [hv] <;> grind

/-! 32 bits -/
theorem s_lp : S32.leastPlace = (-149) := by decide
theorem s_b : S32.binade = 8388608 := by decide
theorem s_i : S32.infRung = 2139095040 := by decide
theorem s_w : S32.signWeight = 2147483648 := by decide
theorem s_word (s : Bool) {r : Nat} (h : r < 2147483648) : (S32.word s r) % S32.signWeight = r ∧ ((S32.word s r) / S32.signWeight % 2 == 1) = s := by
  rw [s_w]
  unfold Format.word
  rw [s_w]
  cases s with
  | false =>
    simp only [Bool.false_eq_true, if_false]
    constructor
    · omega
    · have : r / 2147483648 = 0 := by omega
      rw [this]; rfl
  | true =>
    simp only [if_true]
    constructor
    · omega
    · have : (2147483648 + r) / 2147483648 = 1 := by omega
      rw [this]; rfl
theorem s_readN (s : Bool) {j kept : Nat} (h1 : 8388608 ≤ kept) (h2 : kept < 16777216) (hj : j < 254) : S32.read (S32.word s (j * 8388608 + kept)) = .number s kept ((-149) + j) := by
  obtain ⟨k1, k2⟩ := s_word s (r := j * 8388608 + kept) (by omega)
  unfold Format.read
  simp only [k1, k2]
  rw [if_neg (by rw [s_b]; omega), if_pos (by rw [s_i]; omega), s_b, s_lp]
  have e1 : (j * 8388608 + kept) % 8388608 = kept - 8388608 := by omega
  have e2 : (j * 8388608 + kept) / 8388608 - 1 = j := by omega
  rw [e1, e2, show 8388608 + (kept - 8388608) = kept by omega]
theorem s_readS (s : Bool) {kept : Nat} (h : kept < 16777216) : S32.read (S32.word s kept) = .number s kept ((-149)) := by
  rcases Nat.lt_or_ge kept 8388608 with h2 | h2
  · obtain ⟨k1, k2⟩ := s_word s (r := kept) (by omega)
    unfold Format.read
    simp only [k1, k2]
    rw [if_pos (by rw [s_b]; omega), s_lp]
  · have := s_readN s (j := 0) h2 h (by omega)
    simpa using this
/-- What is written of a number that is not too great. -/
theorem s_write {s : Bool} {m : Nat} {e l : Int} (hm : m ≠ 0) (h2 : m.log2 + e ≤ 126) (hl : l = max (e + m.log2 - 23) ((-149))) :
    ∃ m' e', S32.read (S32.write (.number s m e)) = .number s m' e' ∧ m' < 16777216 ∧ (-149) ≤ e' ∧ mg m' e' ≤ mg m e + pw (l - 1) ∧ mg m e ≤ mg m' e' + pw (l - 1) := by
  have hfb : (S32.fractionBits : Int) = 23 := by decide
  have hlast : max (e + m.log2 - S32.fractionBits) S32.leastPlace = l := by rw [s_lp, hfb, hl]
  obtain ⟨g1, g2⟩ := mg_log hm e
  have hl1 : e + m.log2 - 23 ≤ l := by omega
  have hl2 : (-149) ≤ l := by omega
  have h3 : 2 ^ m.log2 ≤ m := Nat.log2_self_le hm
  have h4 : m < 2 ^ (m.log2 + 1) := Nat.lt_log2_self
  have key : ∃ kept : Nat, Toward.even.cut s (m <<< (e - l).toNat) (l - e).toNat = kept ∧ mg kept l ≤ mg m e + pw (l - 1) ∧ mg m e ≤ mg kept l + pw (l - 1) := cut_near s hm l
  obtain ⟨kept, hk, k1, k2⟩ := key
  have kb : kept ≤ 16777216 := by
    have u1 : mg m e < pw (l + 24) := by
      have u0 : pw (m.log2 + e + 1) ≤ pw (l + 24) := pw_le (by omega)
      grind
    have u2 : mg kept l < mg (16777216 + 1) l := by
      have e1 : mg (16777216 + 1) l = mg 16777216 l + mg 1 l := mg_add _ _ _
      have e2 : mg 16777216 l = pw (l + 24) := by rw [show 16777216 = 2 ^ 24 from rfl, mg_pow]; congr 1; omega
      have e3 : mg 1 l = pw l := by rw [show (1 : Nat) = 2 ^ 0 from rfl, mg_pow]; congr 1; omega
      have e4 : pw l = 2 * pw (l - 1) := by rw [← pw_succ]; congr 1; omega
      have := pw_pos (l - 1)
      rw [e1, e2, e3]
      grind
    rcases Nat.lt_or_ge kept (16777216 + 1) with h | h
    · omega
    · have := mg_mono h l; grind
  have kn : e + m.log2 - 23 = l → 8388608 ≤ kept := by
    intro he
    have u1 : pw (l + 23) ≤ mg m e := Rat.le_trans (pw_le (by omega)) g1
    rcases Nat.lt_or_ge kept 8388608 with h | h
    · exfalso
      have h5 := mg_mono (show kept + 1 ≤ 8388608 by omega) l
      rw [mg_add] at h5
      have e2 : mg 8388608 l = pw (l + 23) := by rw [show 8388608 = 2 ^ 23 from rfl, mg_pow]; congr 1; omega
      have e3 : mg 1 l = pw l := by rw [show (1 : Nat) = 2 ^ 0 from rfl, mg_pow]; congr 1; omega
      have e4 : pw l = 2 * pw (l - 1) := by rw [← pw_succ]; congr 1; omega
      have := pw_pos (l - 1)
      rw [e2, e3] at h5
      grind
    · exact h
  have hwr : S32.write (.number s m e) = S32.word s ((l - (-149)).toNat * 8388608 + kept) := by
    show S32.nearest s m e = _
    unfold Format.nearest
    rw [if_neg hm]
    simp only [hlast]
    rw [hk, s_lp, s_b, s_i, Nat.min_eq_left]
    omega
  rw [hwr]
  by_cases hz : l = (-149)
  · have z : (l - (-149)).toNat = 0 := by omega
    rw [z, Nat.zero_mul, Nat.zero_add]
    rcases Nat.lt_or_ge kept 16777216 with h | h
    · rw [s_readS s h]
      exact ⟨kept, _, rfl, h, by omega, by rw [← hz]; exact k1, by rw [← hz]; exact k2⟩
    · obtain rfl : kept = 16777216 := by omega
      have := s_readN s (j := 1) (kept := 8388608) (by omega) (by omega) (by omega)
      rw [show 1 * 8388608 + 8388608 = 16777216 from rfl] at this
      rw [this]
      have hv : mg 8388608 ((-149) + ((1 : Nat) : Int)) = mg 16777216 l := by
        have := mg_shift 8388608 1 ((-149) + ((1 : Nat) : Int))
        rw [← this, show 8388608 * 2 ^ 1 = 16777216 from rfl]
        congr 1; omega
      exact ⟨_, _, rfl, by omega, by omega, by rw [hv]; exact k1, by rw [hv]; exact k2⟩
  · have hb := kn (by omega)
    rcases Nat.lt_or_ge kept 16777216 with h | h
    · rw [s_readN s hb h (by omega)]
      have hv : ((-149) : Int) + ((l - (-149)).toNat : Int) = l := by omega
      rw [hv]
      exact ⟨kept, _, rfl, h, by omega, k1, k2⟩
    · obtain rfl : kept = 16777216 := by omega
      have := s_readN s (j := (l - (-149)).toNat + 1) (kept := 8388608) (by omega) (by omega) (by omega)
      rw [show ((l - (-149)).toNat + 1) * 8388608 + 8388608 = (l - (-149)).toNat * 8388608 + 16777216 by omega] at this
      rw [this]
      have hv : mg 8388608 ((-149) + (((l - (-149)).toNat + 1 : Nat) : Int)) = mg 16777216 l := by
        have := mg_shift 8388608 1 ((-149) + (((l - (-149)).toNat + 1 : Nat) : Int))
        rw [← this, show 8388608 * 2 ^ 1 = 16777216 from rfl]
        congr 1; omega
      exact ⟨_, _, rfl, by omega, by omega, by rw [hv]; exact k1, by rw [hv]; exact k2⟩
theorem s_small {w : Nat} {s : Bool} {m : Nat} {e : Int} (h : S32.read w = .number s m e) : m < 16777216 ∧ (-149) ≤ e := by
  unfold Format.read at h
  simp only at h
  rw [s_b, s_lp, s_i] at h
  split at h
  · rename_i hc
    cases h
    omega
  · split at h
    · cases h
      have := Nat.mod_lt (w % S32.signWeight) (show 0 < 8388608 by omega)
      omega
    · split at h <;> cases h

/-! 64 bits -/
theorem d_lp : D.leastPlace = (-1074) := by decide
theorem d_b : D.binade = 4503599627370496 := by decide
theorem d_i : D.infRung = 9218868437227405312 := by decide
theorem d_w : D.signWeight = 9223372036854775808 := by decide
theorem d_word (s : Bool) {r : Nat} (h : r < 9223372036854775808) : (D.word s r) % D.signWeight = r ∧ ((D.word s r) / D.signWeight % 2 == 1) = s := by
  rw [d_w]
  unfold Format.word
  rw [d_w]
  cases s with
  | false =>
    simp only [Bool.false_eq_true, if_false]
    constructor
    · omega
    · have : r / 9223372036854775808 = 0 := by omega
      rw [this]; rfl
  | true =>
    simp only [if_true]
    constructor
    · omega
    · have : (9223372036854775808 + r) / 9223372036854775808 = 1 := by omega
      rw [this]; rfl
theorem d_readN (s : Bool) {j kept : Nat} (h1 : 4503599627370496 ≤ kept) (h2 : kept < 9007199254740992) (hj : j < 2046) : D.read (D.word s (j * 4503599627370496 + kept)) = .number s kept ((-1074) + j) := by
  obtain ⟨k1, k2⟩ := d_word s (r := j * 4503599627370496 + kept) (by omega)
  unfold Format.read
  simp only [k1, k2]
  rw [if_neg (by rw [d_b]; omega), if_pos (by rw [d_i]; omega), d_b, d_lp]
  have e1 : (j * 4503599627370496 + kept) % 4503599627370496 = kept - 4503599627370496 := by omega
  have e2 : (j * 4503599627370496 + kept) / 4503599627370496 - 1 = j := by omega
  rw [e1, e2, show 4503599627370496 + (kept - 4503599627370496) = kept by omega]
theorem d_readS (s : Bool) {kept : Nat} (h : kept < 9007199254740992) : D.read (D.word s kept) = .number s kept ((-1074)) := by
  rcases Nat.lt_or_ge kept 4503599627370496 with h2 | h2
  · obtain ⟨k1, k2⟩ := d_word s (r := kept) (by omega)
    unfold Format.read
    simp only [k1, k2]
    rw [if_pos (by rw [d_b]; omega), d_lp]
  · have := d_readN s (j := 0) h2 h (by omega)
    simpa using this
/-- What is written of a number that is not too great. -/
theorem d_write {s : Bool} {m : Nat} {e l : Int} (hm : m ≠ 0) (h2 : m.log2 + e ≤ 1000) (hl : l = max (e + m.log2 - 52) ((-1074))) :
    ∃ m' e', D.read (D.write (.number s m e)) = .number s m' e' ∧ m' < 9007199254740992 ∧ (-1074) ≤ e' ∧ mg m' e' ≤ mg m e + pw (l - 1) ∧ mg m e ≤ mg m' e' + pw (l - 1) := by
  have hfb : (D.fractionBits : Int) = 52 := by decide
  have hlast : max (e + m.log2 - D.fractionBits) D.leastPlace = l := by rw [d_lp, hfb, hl]
  obtain ⟨g1, g2⟩ := mg_log hm e
  have hl1 : e + m.log2 - 52 ≤ l := by omega
  have hl2 : (-1074) ≤ l := by omega
  have h3 : 2 ^ m.log2 ≤ m := Nat.log2_self_le hm
  have h4 : m < 2 ^ (m.log2 + 1) := Nat.lt_log2_self
  have key : ∃ kept : Nat, Toward.even.cut s (m <<< (e - l).toNat) (l - e).toNat = kept ∧ mg kept l ≤ mg m e + pw (l - 1) ∧ mg m e ≤ mg kept l + pw (l - 1) := cut_near s hm l
  obtain ⟨kept, hk, k1, k2⟩ := key
  have kb : kept ≤ 9007199254740992 := by
    have u1 : mg m e < pw (l + 53) := by
      have u0 : pw (m.log2 + e + 1) ≤ pw (l + 53) := pw_le (by omega)
      grind
    have u2 : mg kept l < mg (9007199254740992 + 1) l := by
      have e1 : mg (9007199254740992 + 1) l = mg 9007199254740992 l + mg 1 l := mg_add _ _ _
      have e2 : mg 9007199254740992 l = pw (l + 53) := by rw [show 9007199254740992 = 2 ^ 53 from rfl, mg_pow]; congr 1; omega
      have e3 : mg 1 l = pw l := by rw [show (1 : Nat) = 2 ^ 0 from rfl, mg_pow]; congr 1; omega
      have e4 : pw l = 2 * pw (l - 1) := by rw [← pw_succ]; congr 1; omega
      have := pw_pos (l - 1)
      rw [e1, e2, e3]
      grind
    rcases Nat.lt_or_ge kept (9007199254740992 + 1) with h | h
    · omega
    · have := mg_mono h l; grind
  have kn : e + m.log2 - 52 = l → 4503599627370496 ≤ kept := by
    intro he
    have u1 : pw (l + 52) ≤ mg m e := Rat.le_trans (pw_le (by omega)) g1
    rcases Nat.lt_or_ge kept 4503599627370496 with h | h
    · exfalso
      have h5 := mg_mono (show kept + 1 ≤ 4503599627370496 by omega) l
      rw [mg_add] at h5
      have e2 : mg 4503599627370496 l = pw (l + 52) := by rw [show 4503599627370496 = 2 ^ 52 from rfl, mg_pow]; congr 1; omega
      have e3 : mg 1 l = pw l := by rw [show (1 : Nat) = 2 ^ 0 from rfl, mg_pow]; congr 1; omega
      have e4 : pw l = 2 * pw (l - 1) := by rw [← pw_succ]; congr 1; omega
      have := pw_pos (l - 1)
      rw [e2, e3] at h5
      grind
    · exact h
  have hwr : D.write (.number s m e) = D.word s ((l - (-1074)).toNat * 4503599627370496 + kept) := by
    show D.nearest s m e = _
    unfold Format.nearest
    rw [if_neg hm]
    simp only [hlast]
    rw [hk, d_lp, d_b, d_i, Nat.min_eq_left]
    omega
  rw [hwr]
  by_cases hz : l = (-1074)
  · have z : (l - (-1074)).toNat = 0 := by omega
    rw [z, Nat.zero_mul, Nat.zero_add]
    rcases Nat.lt_or_ge kept 9007199254740992 with h | h
    · rw [d_readS s h]
      exact ⟨kept, _, rfl, h, by omega, by rw [← hz]; exact k1, by rw [← hz]; exact k2⟩
    · obtain rfl : kept = 9007199254740992 := by omega
      have := d_readN s (j := 1) (kept := 4503599627370496) (by omega) (by omega) (by omega)
      rw [show 1 * 4503599627370496 + 4503599627370496 = 9007199254740992 from rfl] at this
      rw [this]
      have hv : mg 4503599627370496 ((-1074) + ((1 : Nat) : Int)) = mg 9007199254740992 l := by
        have := mg_shift 4503599627370496 1 ((-1074) + ((1 : Nat) : Int))
        rw [← this, show 4503599627370496 * 2 ^ 1 = 9007199254740992 from rfl]
        congr 1; omega
      exact ⟨_, _, rfl, by omega, by omega, by rw [hv]; exact k1, by rw [hv]; exact k2⟩
  · have hb := kn (by omega)
    rcases Nat.lt_or_ge kept 9007199254740992 with h | h
    · rw [d_readN s hb h (by omega)]
      have hv : ((-1074) : Int) + ((l - (-1074)).toNat : Int) = l := by omega
      rw [hv]
      exact ⟨kept, _, rfl, h, by omega, k1, k2⟩
    · obtain rfl : kept = 9007199254740992 := by omega
      have := d_readN s (j := (l - (-1074)).toNat + 1) (kept := 4503599627370496) (by omega) (by omega) (by omega)
      rw [show ((l - (-1074)).toNat + 1) * 4503599627370496 + 4503599627370496 = (l - (-1074)).toNat * 4503599627370496 + 9007199254740992 by omega] at this
      rw [this]
      have hv : mg 4503599627370496 ((-1074) + (((l - (-1074)).toNat + 1 : Nat) : Int)) = mg 9007199254740992 l := by
        have := mg_shift 4503599627370496 1 ((-1074) + (((l - (-1074)).toNat + 1 : Nat) : Int))
        rw [← this, show 4503599627370496 * 2 ^ 1 = 9007199254740992 from rfl]
        congr 1; omega
      exact ⟨_, _, rfl, by omega, by omega, by rw [hv]; exact k1, by rw [hv]; exact k2⟩
theorem d_small {w : Nat} {s : Bool} {m : Nat} {e : Int} (h : D.read w = .number s m e) : m < 9007199254740992 ∧ (-1074) ≤ e := by
  unfold Format.read at h
  simp only at h
  rw [d_b, d_lp, d_i] at h
  split at h
  · rename_i hc
    cases h
    omega
  · split at h
    · cases h
      have := Nat.mod_lt (w % D.signWeight) (show 0 < 4503599627370496 by omega)
      omega
    · split at h <;> cases h
end Go.Sx


/- Floating numbers of 32 bits. A part of the proof of FnFilmSingle; no conditions. -/
import Derived.Test.YtebldmiopbfmgaaDoorEg
set_option linter.unusedVariables false
set_option linter.unusedSimpArgs false
/- Floating numbers by their values: each operation gives a number near to what it should. -/
namespace Go.Sx
open Go Ieee
set_option linter.unusedVariables false
set_option linter.unusedSimpArgs false

/-- The size of a rational. -/
def qa (x : Rat) : Rat := if x < 0 then -x else x
theorem qa_nn (x : Rat) : 0 ≤ qa x := by unfold qa; split <;> grind
theorem qa_le (x : Rat) : x ≤ qa x ∧ -x ≤ qa x := by unfold qa; split <;> grind
theorem qa_of {x a : Rat} (h1 : x ≤ a) (h2 : -x ≤ a) : qa x ≤ a := by unfold qa; split <;> grind
theorem qa_neg (x : Rat) : qa (-x) = qa x := by unfold qa; split <;> split <;> grind
theorem qa_zero : qa 0 = 0 := by decide
theorem qa_eq0 {x : Rat} (h : qa x = 0) : x = 0 := by unfold qa at h; split at h <;> grind
theorem qa_pos {x : Rat} (h : x ≠ 0) : 0 < qa x := by
  have := qa_nn x
  rcases Rat.le_iff_lt_or_eq.1 this with h1 | h1
  · exact h1
  · exact absurd (qa_eq0 h1.symm) h
theorem qa_add (x y : Rat) : qa (x + y) ≤ qa x + qa y := by
  have := qa_le x; have := qa_le y
  exact qa_of (by grind) (by grind)
theorem qa_sub (x y : Rat) : qa (x - y) ≤ qa x + qa y := by
  have := qa_le x; have := qa_le y
  exact qa_of (by grind) (by grind)
theorem qa_tri (x y : Rat) : qa x ≤ qa y + qa (x - y) := by
  have := qa_le y; have := qa_le (x - y)
  exact qa_of (by grind) (by grind)
theorem qa_tri2 (x y : Rat) : qa y ≤ qa x + qa (x - y) := by
  have := qa_le x; have := qa_le (x - y)
  exact qa_of (by grind) (by grind)
theorem qa_nnx {x : Rat} (h : 0 ≤ x) : qa x = x := by unfold qa; split <;> grind
theorem qa_mul (x y : Rat) : qa (x * y) = qa x * qa y := by
  rcases Rat.le_total (a := 0) (b := x) with hx | hx <;> rcases Rat.le_total (a := 0) (b := y) with hy | hy
  · rw [qa_nnx hx, qa_nnx hy, qa_nnx (Rat.mul_nonneg hx hy)]
  · have := Rat.mul_nonneg hx (show 0 ≤ -y by grind)
    rw [qa_nnx hx, ← qa_neg y, qa_nnx (show 0 ≤ -y by grind), ← qa_neg, qa_nnx (by grind)]
    grind
  · have := Rat.mul_nonneg (show 0 ≤ -x by grind) hy
    rw [qa_nnx hy, ← qa_neg x, qa_nnx (show 0 ≤ -x by grind), ← qa_neg, qa_nnx (by grind)]
    grind
  · have := Rat.mul_nonneg (show 0 ≤ -x by grind) (show 0 ≤ -y by grind)
    rw [← qa_neg x, ← qa_neg y, qa_nnx (show 0 ≤ -x by grind), qa_nnx (show 0 ≤ -y by grind), qa_nnx (by grind)]
    grind
theorem qa_sg (s : Bool) {A : Rat} (h : 0 ≤ A) : qa (sg s A) = A := by
  unfold sg
  cases s
  · simp only [Bool.false_eq_true, if_false]; exact qa_nnx h
  · simp only [if_true]; rw [qa_neg]; exact qa_nnx h
theorem sg_mulq (s t : Bool) (x y : Rat) : sg (s ^^ t) (x * y) = sg s x * sg t y := by unfold sg; cases s <;> cases t <;> simp <;> grind
theorem sg_not (s : Bool) (x : Rat) : sg (!s) x = -sg s x := by unfold sg; cases s <;> simp
theorem sg_zero (s : Bool) : sg s 0 = 0 := by unfold sg; cases s <;> simp
theorem sg_sub (s : Bool) (x y : Rat) : sg s x - sg s y = sg s (x - y) := by unfold sg; cases s <;> simp <;> grind
/-- A word of 64 bits and what it stands for. -/
def W (w : Nat) (x : Rat) : Prop := ∃ s m e, D.read w = .number s m e ∧ sg s (mg m e) = x
def eD : Rat := pw (-50)
theorem eD_nn : 0 ≤ eD := Rat.le_of_lt (pw_pos _)
theorem eD_le : eD ≤ 1 / 1000000 := by decide +kernel
/-- z is t but for the share u. -/
def Nr (u z t : Rat) : Prop := qa (z - t) ≤ u * qa t
/-- Nothing, or of some size. -/
def Rn (t : Rat) : Prop := t = 0 ∨ (pw (-900) ≤ qa t ∧ qa t ≤ pw 900)
theorem Nr.up {u z t : Rat} (h : Nr u z t) : qa z ≤ (1 + u) * qa t := by
  have := qa_tri z t
  unfold Nr at h
  grind
theorem Nr.lo {u z t : Rat} (h : Nr u z t) : (1 - u) * qa t ≤ qa z := by
  have := qa_tri2 z t
  unfold Nr at h
  grind
theorem Nr.zero {u z : Rat} (h : Nr u z 0) : z = 0 := by
  unfold Nr at h
  rw [qa_zero, Rat.mul_zero] at h
  have h2 := qa_nn (z - 0)
  have h3 := qa_eq0 (show qa (z - 0) = 0 by grind)
  grind
theorem W_write {s : Bool} {m : Nat} {e : Int} {t : Rat} (ht : sg s (mg m e) = t) (hr : Rn t) : ∃ z, W (D.write (.number s m e)) z ∧ Nr (pw (-53)) z t := by
  by_cases hm : m = 0
  · subst hm
    have h0 : t = 0 := by rw [← ht, mg_zero, sg_zero]
    refine ⟨0, ⟨s, 0, _, read_sub s (by decide), by rw [mg_zero, sg_zero]⟩, ?_⟩
    unfold Nr
    rw [h0, show (0 : Rat) - 0 = 0 by grind, qa_zero]
    grind
  · have hp := mg_pos hm e
    have hq : qa t = mg m e := by rw [← ht, qa_sg s (Rat.le_of_lt hp)]
    have hb : pw (-900) ≤ mg m e ∧ mg m e ≤ pw 900 := by
      rcases hr with h | h
      · exfalso
        rw [h, qa_zero] at hq
        grind
      · rw [hq] at h; exact h
    obtain ⟨l1, l2⟩ := log_of hm hb.1 hb.2
    obtain ⟨m', e', r, hm', h1, h2⟩ := near_ap (s := s) (e := e) hm (by omega) (by omega)
    refine ⟨sg s (mg m' e'), ⟨s, m', e', r, rfl⟩, ?_⟩
    unfold Nr
    rw [hq, ← ht, sg_sub]
    have hu : uF = pw (-53) := rfl
    rw [hu] at h1 h2
    unfold sg
    cases s
    · simp only [Bool.false_eq_true, if_false]
      exact qa_of (by grind) (by grind)
    · simp only [if_true]
      rw [qa_neg]
      exact qa_of (by grind) (by grind)
theorem Nr.mono {u v z t : Rat} (h : Nr u z t) (hv : u ≤ v) : Nr v z t := by
  unfold Nr at *
  have := Rat.mul_le_mul_of_nonneg_right hv (qa_nn t)
  grind
theorem pw53_le : pw (-53) ≤ eD := pw_le (by omega)
theorem W_mul {u v : Nat} {x y : Rat} (hu : W u x) (hv : W v y) (hr : Rn (x * y)) : ∃ w z, floatBits .mul .f64 u v = some w ∧ W w z ∧ Nr eD z (x * y) := by
  obtain ⟨s, m, i, r1, rfl⟩ := hu
  obtain ⟨t, n, j, r2, rfl⟩ := hv
  obtain ⟨z, hz, hn⟩ := W_write (s := s ^^ t) (m := m * n) (e := i + j) (by rw [mg_mul, sg_mulq]) hr
  refine ⟨_, z, ?_, hz, hn.mono pw53_le⟩
  show ((D.read u).product (D.read v)).map D.write = _
  rw [r1, r2]
  rfl
theorem W_add {u v : Nat} {x y : Rat} (hu : W u x) (hv : W v y) (hr : Rn (x + y)) : ∃ w z, floatBits .add .f64 u v = some w ∧ W w z ∧ Nr eD z (x + y) := by
  obtain ⟨s, m, i, r1, rfl⟩ := hu
  obtain ⟨t, n, j, r2, rfl⟩ := hv
  obtain ⟨o, c, b, e1, e2⟩ := sum_exact (s := s) (t := t) (m := m) (n := n) (i := i) (j := j)
  obtain ⟨z, hz, hn⟩ := W_write (s := o) (m := c) (e := b) e2 hr
  refine ⟨_, z, ?_, hz, hn.mono pw53_le⟩
  show ((D.read u).sum (D.read v)).map D.write = _
  rw [r1, r2, e1]
  rfl
theorem W_sub {u v : Nat} {x y : Rat} (hu : W u x) (hv : W v y) (hr : Rn (x - y)) : ∃ w z, floatBits .sub .f64 u v = some w ∧ W w z ∧ Nr eD z (x - y) := by
  obtain ⟨s, m, i, r1, rfl⟩ := hu
  obtain ⟨t, n, j, r2, rfl⟩ := hv
  obtain ⟨o, c, b, e1, e2⟩ := sum_exact (s := s) (t := !t) (m := m) (n := n) (i := i) (j := j)
  rw [sg_not] at e2
  obtain ⟨z, hz, hn⟩ := W_write (s := o) (m := c) (e := b) (t := sg s (mg m i) - sg t (mg n j)) (by rw [e2]; grind) hr
  refine ⟨_, z, ?_, hz, hn.mono pw53_le⟩
  show ((D.read u).sum (D.read v).opposite).map D.write = _
  rw [opp_read r2, r1, e1]
  rfl
theorem W_quo {u v : Nat} {x y : Rat} (hu : W u x) (hv : W v y) (hy : y ≠ 0) (hr : Rn (x / y)) : ∃ w z, floatBits .quo .f64 u v = some w ∧ W w z ∧ Nr eD z (x / y) := by
  obtain ⟨s, m, i, r1, rfl⟩ := hu
  obtain ⟨t, n, j, r2, rfl⟩ := hv
  have hn0 : n ≠ 0 := by
    rintro rfl
    rw [mg_zero, sg_zero] at hy
    exact hy rfl
  by_cases hm : m = 0
  · subst hm
    obtain ⟨w, h1, s', e', h2⟩ := div_zero_l ⟨s, i, r1⟩ r2 hn0
    refine ⟨w, 0, h1, ⟨s', 0, e', h2, by rw [mg_zero, sg_zero]⟩, ?_⟩
    rw [mg_zero, sg_zero]
    unfold Nr
    rw [show (0 : Rat) / sg t (mg n j) = 0 by rw [Rat.div_def, Rat.zero_mul], show (0 : Rat) - 0 = 0 by grind, qa_zero]
    grind
  · have hms := read_small r1
    obtain ⟨c, e, q1, hc, a1, a2⟩ := quot_ap (s := s) (t := t) (i := i) (j := j) hms hm hn0
    have pN := mg_pos hn0 j
    have pM := mg_pos hm i
    have pC := mg_pos hc e
    have hu : uF = pw (-53) := rfl
    rw [hu] at a1 a2
    have u0 : (0 : Rat) < pw (-53) := pw_pos _
    have u1 : pw (-53) ≤ 1 / 1000000 := by decide +kernel
    -- the quotient's value
    have eX : sg s (mg m i) / sg t (mg n j) = sg (s ^^ t) (mg m i / mg n j) := by
      have hne : mg n j ≠ 0 := by grind
      unfold sg
      cases s <;> cases t <;> simp <;> grind
    have hX : mg m i / mg n j * mg n j = mg m i := by grind
    have pX : 0 < mg m i / mg n j := by
      rcases Rat.le_total (a := mg m i / mg n j) (b := 0) with h | h
      · have := Rat.mul_le_mul_of_nonneg_right h (Rat.le_of_lt pN)
        grind
      · rcases Rat.le_iff_lt_or_eq.1 h with h | h
        · exact h
        · rw [← h] at hX; grind
    generalize mg m i / mg n j = X at *
    have n1 : X * (1 - pw (-53)) ≤ mg c e := by
      refine Rat.le_of_mul_le_mul_right ?_ pN
      rw [show X * (1 - pw (-53)) * mg n j = X * mg n j * (1 - pw (-53)) by rw [Rat.mul_assoc, Rat.mul_comm (1 - pw (-53)), ← Rat.mul_assoc], hX]
      exact a1
    have n2 : mg c e ≤ X * (1 + pw (-53)) := by
      refine Rat.le_of_mul_le_mul_right ?_ pN
      rw [show X * (1 + pw (-53)) * mg n j = X * mg n j * (1 + pw (-53)) by rw [Rat.mul_assoc, Rat.mul_comm (1 + pw (-53)), ← Rat.mul_assoc], hX]
      exact a2
    rw [eX] at hr ⊢
    have hqX : qa (sg (s ^^ t) X) = X := qa_sg _ (Rat.le_of_lt pX)
    have hb : pw (-900) ≤ X ∧ X ≤ pw 900 := by
      rcases hr with h | h
      · exfalso
        rw [h, qa_zero] at hqX
        grind
      · rw [hqX] at h; exact h
    have k1 : X * pw (-53) ≤ X * (1 / 1000000) := Rat.mul_le_mul_of_nonneg_left u1 (Rat.le_of_lt pX)
    have hb1 : pw (-901) ≤ mg c e := by
      have : pw (-900) = 2 * pw (-901) := by rw [← pw_succ]; rfl
      grind
    have hb2 : mg c e ≤ pw 901 := by
      have : pw 901 = 2 * pw 900 := by rw [← pw_succ]; rfl
      grind
    obtain ⟨l1, l2⟩ := log_of hc hb1 hb2
    obtain ⟨m', e', r, hm', h1, h2⟩ := near_ap (s := s ^^ t) (e := e) hc (by omega) (by omega)
    rw [hu] at h1 h2
    refine ⟨D.write (.number (s ^^ t) c e), sg (s ^^ t) (mg m' e'), ?_, ⟨s ^^ t, m', e', r, rfl⟩, ?_⟩
    · show ((D.read u).quotient 54 (D.read v)).map D.write = _
      rw [r1, r2, q1]
      rfl
    · unfold Nr
      rw [hqX, sg_sub]
      have k0 : mg c e * pw (-53) ≤ X * 2 * pw (-53) := Rat.mul_le_mul_of_nonneg_right (by grind) (Rat.le_of_lt u0)
      have ee : eD = 8 * pw (-53) := by
        unfold eD
        rw [show (-50 : Int) = 3 + -53 from rfl, pw_add]
        rfl
      have kk : 0 ≤ X * pw (-53) := Rat.mul_nonneg (Rat.le_of_lt pX) (Rat.le_of_lt u0)
      have b1 : mg m' e' - X ≤ eD * X := by rw [ee]; grind
      have b2 : -(mg m' e' - X) ≤ eD * X := by rw [ee]; grind
      unfold sg
      cases (s ^^ t)
      · simp only [Bool.false_eq_true, if_false]
        exact qa_of b1 b2
      · simp only [if_true]
        rw [qa_neg]
        exact qa_of b1 b2
/-- A sum of two floating numbers that is not nothing is not too small beside them. -/
theorem grid_sum {s t : Bool} {m n a : Nat} {i j : Int} (hm : m < 2 ^ a) (hn : n < 2 ^ a) (h : sg s (mg m i) + sg t (mg n j) ≠ 0) :
    pw (-(a : Int) - 1) * mg m i ≤ qa (sg s (mg m i) + sg t (mg n j)) ∧ pw (-(a : Int) - 1) * mg n j ≤ qa (sg s (mg m i) + sg t (mg n j)) := by
  obtain ⟨o, c, b, hb, e2⟩ : ∃ o c b, b = min i j ∧ sg o (mg c b) = sg s (mg m i) + sg t (mg n j) := by
    obtain ⟨o, c, b, e1, e2⟩ := sum_exact (s := s) (t := t) (m := m) (n := n) (i := i) (j := j)
    refine ⟨o, c, b, ?_, e2⟩
    have e1 : some (Datum.number _ _ (min i j)) = some (.number o c b) := e1
    injection e1 with e1
    injection e1 with _ _ e3
    exact e3.symm
  rw [← e2] at h ⊢
  have hc : c ≠ 0 := by
    rintro rfl
    rw [mg_zero, sg_zero] at h
    exact h rfl
  have hp := pw_pos b
  have h1 : pw b ≤ mg c b := by
    have := mg_mono (show 1 ≤ c by omega) b
    rw [show mg 1 b = pw b by rw [show (1 : Nat) = 2 ^ 0 from rfl, mg_pow]; congr 1; omega] at this
    exact this
  have hS : qa (sg o (mg c b)) = mg c b := qa_sg _ (mg_nn c b)
  have bm : mg m i ≤ pw (a + i) := by rw [← mg_pow]; exact mg_mono (Nat.le_of_lt hm) i
  have bn : mg n j ≤ pw (a + j) := by rw [← mg_pow]; exact mg_mono (Nat.le_of_lt hn) j
  have hT : qa (sg o (mg c b)) ≥ pw b := by rw [hS]; exact h1
  -- what each is at most, beside the other
  have t1 : mg m i ≤ mg n j + mg c b := by
    have q1 := qa_sg s (mg_nn m i)
    have q2 := qa_sg t (mg_nn n j)
    have q3 := qa_sub (sg o (mg c b)) (sg t (mg n j))
    rw [show sg o (mg c b) - sg t (mg n j) = sg s (mg m i) by grind, q1, q2, hS] at q3
    grind
  have t2 : mg n j ≤ mg m i + mg c b := by
    have q1 := qa_sg s (mg_nn m i)
    have q2 := qa_sg t (mg_nn n j)
    have q3 := qa_sub (sg o (mg c b)) (sg s (mg m i))
    rw [show sg o (mg c b) - sg s (mg m i) = sg t (mg n j) by grind, q1, q2, hS] at q3
    grind
  rw [hS]
  have pa : pw (-(a : Int) - 1) ≤ 1 / 2 := by
    have : pw (-(a : Int) - 1) ≤ pw (-1) := pw_le (by omega)
    have : pw (-1) = 1 / 2 := by decide +kernel
    grind
  have pa0 := pw_pos (-(a : Int) - 1)
  have half : 2 * pw (-(a : Int) - 1) = pw (-(a : Int)) := by rw [← pw_succ]; congr 1; omega
  have g : (pw (-(a : Int)) * mg m i ≤ mg c b) ∨ (pw (-(a : Int)) * mg n j ≤ mg c b) := by
    rcases Int.le_total i j with h | h
    · left
      have := Rat.mul_le_mul_of_nonneg_left bm (Rat.le_of_lt (pw_pos (-(a : Int))))
      rw [← pw_add, show -(a : Int) + (a + i) = b by omega] at this
      grind
    · right
      have := Rat.mul_le_mul_of_nonneg_left bn (Rat.le_of_lt (pw_pos (-(a : Int))))
      rw [← pw_add, show -(a : Int) + (a + j) = b by omega] at this
      grind
  have c0 := mg_nn c b
  have k1 := Rat.mul_le_mul_of_nonneg_right pa c0
  have k2 := Rat.mul_le_mul_of_nonneg_left t1 (Rat.le_of_lt pa0)
  have k3 := Rat.mul_le_mul_of_nonneg_left t2 (Rat.le_of_lt pa0)
  rw [← half] at g
  clear half bm bn hT h1 hp e2 hS h pa
  generalize pw (-(a : Int) - 1) = p at *
  generalize mg m i = M at *
  generalize mg n j = N at *
  generalize mg c b = C at *
  rcases g with g | g
  · constructor <;> grind
  · constructor <;> grind
theorem W_grid {u v : Nat} {x y : Rat} (hu : W u x) (hv : W v y) (h : x + y ≠ 0) : pw (-54) * qa x ≤ qa (x + y) ∧ pw (-54) * qa y ≤ qa (x + y) := by
  obtain ⟨s, m, i, r1, rfl⟩ := hu
  obtain ⟨t, n, j, r2, rfl⟩ := hv
  rw [qa_sg s (mg_nn m i), qa_sg t (mg_nn n j)]
  exact grid_sum (a := 53) (read_small r1) (read_small r2) h
theorem W_grid' {u v : Nat} {x y : Rat} (hu : W u x) (hv : W v y) (h : x - y ≠ 0) : pw (-54) * qa x ≤ qa (x - y) ∧ pw (-54) * qa y ≤ qa (x - y) := by
  have hv' : W (ngF v) (-y) := by
    obtain ⟨t, n, j, r2, rfl⟩ := hv
    exact ⟨!t, n, j, ng_read r2, sg_not _ _⟩
  have := W_grid hu hv' (by grind)
  rw [qa_neg, show x + -y = x - y by grind] at this
  exact this
end Go.Sx

/- Floating numbers of 32 bits by their values: widened, narrowed, added. -/
namespace Go.Sx
open Go Ieee
set_option linter.unusedVariables false
set_option linter.unusedSimpArgs false

/-- A word of 32 bits and what it stands for. -/
def V (w : Nat) (x : Rat) : Prop := ∃ s m e, S32.read w = .number s m e ∧ sg s (mg m e) = x
/-- z is what is kept of t in 32 bits. -/
structure Rd (z t : Rat) : Prop where
  two : qa z ≤ 2 * qa t
  half : z ≠ 0 → qa t ≤ 2 * qa z
  near : qa (z - t) ≤ pw (-24) * qa t ∨ qa t ≤ pw (-126)
  least : z ≠ 0 → pw (-149) ≤ qa z
  nz : pw (-149) ≤ qa t → z ≠ 0
theorem Rd.zero {z : Rat} (h : Rd z 0) : z = 0 := by
  have := h.two
  rw [qa_zero, Rat.mul_zero] at this
  have h2 := qa_nn z
  exact qa_eq0 (by grind)
theorem sg_ne {s : Bool} {A : Rat} (h : A ≠ 0) : sg s A ≠ 0 := by unfold sg; cases s <;> simp <;> grind
theorem pw_pred (k : Int) : pw k = 2 * pw (k - 1) := by rw [← pw_succ]; congr 1; omega
theorem V_write {s : Bool} {m : Nat} {e : Int} {t : Rat} (ht : sg s (mg m e) = t) (hb : qa t ≤ pw 126) : ∃ z, V (S32.write (.number s m e)) z ∧ Rd z t ∧ (S32.read (S32.write (.number s m e))).isInfinity = false := by
  by_cases hm : m = 0
  · subst hm
    have h0 : t = 0 := by rw [← ht, mg_zero, sg_zero]
    have hr : S32.read (S32.write (.number s 0 e)) = .number s 0 (-149) := s_readS s (by decide)
    refine ⟨0, ⟨s, 0, _, hr, by rw [mg_zero, sg_zero]⟩, ?_, by rw [hr]; rfl⟩
    subst h0
    have p := pw_pos (-149)
    exact ⟨by rw [qa_zero]; grind, fun h => absurd rfl h, .inl (by rw [show (0 : Rat) - 0 = 0 by grind, qa_zero]; grind), fun h => absurd rfl h, fun h => by rw [qa_zero] at h; grind⟩
  · have hp := mg_pos hm e
    have hq : qa t = mg m e := by rw [← ht, qa_sg s (Rat.le_of_lt hp)]
    rw [hq] at hb
    obtain ⟨g1, g2⟩ := mg_log hm e
    have hL : (m.log2 : Int) + e ≤ 126 := by
      have h5 : ¬ 126 < (m.log2 : Int) + e := fun hh => by
        have h6 : pw 127 ≤ pw (m.log2 + e) := pw_le (by omega)
        have h7 := pw_pred 127
        have := pw_pos 126
        rw [show (127 : Int) - 1 = 126 from rfl] at h7
        grind
      omega
    obtain ⟨m', e', r, b1, b2, k1, k2⟩ := s_write (s := s) hm hL rfl
    have hq' : qa (sg s (mg m' e')) = mg m' e' := qa_sg s (mg_nn m' e')
    have hz : sg s (mg m' e') ≠ 0 → pw (-149) ≤ mg m' e' := fun h => by
      have hm' : m' ≠ 0 := by
        rintro rfl
        rw [mg_zero, sg_zero] at h
        exact h rfl
      have := (mg_log hm' e').1
      have h2 : pw (-149) ≤ pw (m'.log2 + e') := pw_le (by omega)
      grind
    have hd : qa (sg s (mg m' e') - t) = qa (mg m' e' - mg m e) := by
      rw [← ht, sg_sub]
      unfold sg
      cases s
      · simp
      · simp only [if_true]; exact qa_neg _
    refine ⟨sg s (mg m' e'), ⟨s, m', e', r, rfl⟩, ?_, by rw [r]; rfl⟩
    rcases Int.lt_or_le (e + m.log2 - 23) (-149) with hl | hl
    · rw [show max (e + (m.log2 : Int) - 23) (-149) = -149 by omega] at k1 k2
      have p0 := pw_pred (-149)
      have p1 := pw_pos (-149 - 1)
      have hz2 : sg s (mg m' e') = 0 → mg m' e' = 0 := fun h => by rw [← hq', h, qa_zero]
      refine ⟨?_, fun h => ?_, .inr ?_, fun h => by rw [hq']; exact hz h, fun h h0 => ?_⟩
      · rw [hq', hq]
        by_cases h : sg s (mg m' e') = 0
        · rw [hz2 h]; grind
        · have := hz h; grind
      · rw [hq', hq]
        have := hz h; grind
      · rw [hq]
        have : pw (m.log2 + e + 1) ≤ pw (-126) := pw_le (by omega)
        grind
      · have := hz2 h0
        rw [hq] at h
        grind
    · rw [show max (e + (m.log2 : Int) - 23) (-149) = e + m.log2 - 23 by omega] at k1 k2
      have e1 : pw (e + m.log2 - 23 - 1) = pw (m.log2 + e) * pw (-24) := by rw [← pw_add]; congr 1; omega
      have p24 : pw (-24) ≤ 1 / 1000 := by decide +kernel
      have p24' := pw_pos (-24)
      have k3 := Rat.mul_le_mul_of_nonneg_right g1 (Rat.le_of_lt p24')
      have k4 := Rat.mul_le_mul_of_nonneg_left p24 (Rat.le_of_lt hp)
      rw [e1] at k1 k2
      have lo : mg m e ≤ 2 * mg m' e' := by grind
      refine ⟨by rw [hq', hq]; grind, fun _ => by rw [hq', hq]; exact lo, .inl ?_, fun h => by rw [hq']; exact hz h, fun _ h0 => ?_⟩
      · rw [hd, hq]
        exact qa_of (by grind) (by grind)
      · rw [← hq', h0, qa_zero] at lo
        grind
theorem up_V {w : Nat} {x : Rat} (h : V w x) (hb : qa x ≤ pw 200) : ∃ u, floatToFloatBits .f32 w .f64 = some u ∧ W u x := by
  obtain ⟨s, m, e, r, rfl⟩ := h
  obtain ⟨b1, b2⟩ := s_small r
  rw [qa_sg s (mg_nn m e)] at hb
  have hL : m = 0 ∨ (m.log2 : Int) + ((0 : Nat) : Int) + e ≤ 1000 := by
    by_cases hm : m = 0
    · exact .inl hm
    · right
      have h5 : ¬ 200 < (m.log2 : Int) + e := fun hh => by
        have h6 : pw 201 ≤ pw (m.log2 + e) := pw_le (by omega)
        have h7 := pw_pred 201
        have := pw_pos 200
        rw [show (201 : Int) - 1 = 200 from rfl] at h7
        have := (mg_log hm e).1
        grind
      omega
  obtain ⟨m', e', r', v⟩ := write_exact (s := s) (m := m) (u := 0) (e := e) (by omega) (by omega) hL
  rw [show m * 2 ^ 0 = m by omega] at r'
  rw [show e + ((0 : Nat) : Int) = e by omega] at v
  refine ⟨D.write (.number s m e), ?_, s, m', e', r', by rw [v]⟩
  have hr : FloatKind.f32.decode w = .number s m e := r
  have hr' : FloatKind.f64.decode (FloatKind.f64.encode (.number s m e)) = .number s m' e' := r'
  unfold floatToFloatBits
  rw [if_neg (by decide), hr]
  simp only [hr']
  rfl
theorem dn_W {w : Nat} {t : Rat} (h : W w t) (hb : qa t ≤ pw 126) : ∃ r z, floatToFloatBits .f64 w .f32 = some r ∧ V r z ∧ Rd z t := by
  obtain ⟨s, m, e, r, ht⟩ := h
  obtain ⟨z, h1, h2, h3⟩ := V_write ht hb
  refine ⟨S32.write (.number s m e), z, ?_, h1, h2⟩
  have hr : FloatKind.f64.decode w = .number s m e := r
  have h3' : (FloatKind.f32.decode (FloatKind.f32.encode (.number s m e))).isInfinity = false := h3
  unfold floatToFloatBits
  rw [if_neg (by decide), hr]
  simp only [h3']
  rfl
theorem V_add {u v : Nat} {x y : Rat} (hu : V u x) (hv : V v y) (hb : qa (x + y) ≤ pw 126) : ∃ w z, floatBits .add .f32 u v = some w ∧ V w z ∧ Rd z (x + y) := by
  obtain ⟨s, m, i, r1, rfl⟩ := hu
  obtain ⟨t, n, j, r2, rfl⟩ := hv
  obtain ⟨o, c, b, e1, e2⟩ := sum_exact (s := s) (t := t) (m := m) (n := n) (i := i) (j := j)
  obtain ⟨z, hz, hn, _⟩ := V_write (s := o) (m := c) (e := b) e2 hb
  refine ⟨_, z, ?_, hz, hn⟩
  show ((S32.read u).sum (S32.read v)).map S32.write = _
  rw [r1, r2, e1]
  rfl
theorem V_sub {u v : Nat} {x y : Rat} (hu : V u x) (hv : V v y) (hb : qa (x - y) ≤ pw 126) : ∃ w z, floatBits .sub .f32 u v = some w ∧ V w z ∧ Rd z (x - y) := by
  obtain ⟨s, m, i, r1, rfl⟩ := hu
  obtain ⟨t, n, j, r2, rfl⟩ := hv
  obtain ⟨o, c, b, e1, e2⟩ := sum_exact (s := s) (t := !t) (m := m) (n := n) (i := i) (j := j)
  rw [sg_not] at e2
  obtain ⟨z, hz, hn, _⟩ := V_write (s := o) (m := c) (e := b) (t := sg s (mg m i) - sg t (mg n j)) (by rw [e2]; grind) hb
  refine ⟨_, z, ?_, hz, hn⟩
  show ((S32.read u).sum (S32.read v).opposite).map S32.write = _
  rw [show (S32.read v).opposite = .number (!t) n j by rw [r2]; rfl, r1, e1]
  rfl
/-- A sum that is not nothing. -/
theorem V_grid {u v : Nat} {x y : Rat} (hu : V u x) (hv : V v y) (h : x + y ≠ 0) : pw (-25) * qa x ≤ qa (x + y) ∧ pw (-25) * qa y ≤ qa (x + y) ∧ pw (-149) ≤ qa (x + y) := by
  obtain ⟨s, m, i, r1, rfl⟩ := hu
  obtain ⟨t, n, j, r2, rfl⟩ := hv
  obtain ⟨m1, m2⟩ := s_small r1
  obtain ⟨n1, n2⟩ := s_small r2
  have g := grid_sum (a := 24) (by omega) (by omega) h
  rw [qa_sg s (mg_nn m i), qa_sg t (mg_nn n j)]
  refine ⟨g.1, g.2, ?_⟩
  obtain ⟨o, c, b, e1, e2⟩ := sum_exact (s := s) (t := t) (m := m) (n := n) (i := i) (j := j)
  have hb : b = min i j := by
    have e1 : some (Datum.number _ _ (min i j)) = some (.number o c b) := e1
    injection e1 with e1
    injection e1 with _ _ e3
    exact e3.symm
  rw [← e2] at h ⊢
  have hc : c ≠ 0 := by
    rintro rfl
    rw [mg_zero, sg_zero] at h
    exact h rfl
  rw [qa_sg o (mg_nn c b)]
  have h1 := (mg_log hc b).1
  have h2 : pw (-149) ≤ pw (c.log2 + b) := pw_le (by omega)
  grind
theorem V_neg {w : Nat} {x : Rat} (h : V w x) : V (Op.negFloat .f32 w) (-x) := by
  obtain ⟨s, m, e, r, rfl⟩ := h
  refine ⟨!s, m, e, ?_, sg_not _ _⟩
  have hx : Op.negFloat .f32 w = w ^^^ 2 ^ 31 := rfl
  have key : (Op.negFloat .f32 w) % S32.signWeight = w % S32.signWeight ∧ ((Op.negFloat .f32 w) / S32.signWeight % 2 == 1) = !(w / S32.signWeight % 2 == 1) := by
    have hw : S32.signWeight = 2 ^ 31 := by decide
    rw [hx, hw]
    constructor
    · rw [Nat.xor_mod_two_pow, Nat.mod_self, Nat.xor_zero]
    · rw [Nat.xor_div_two_pow, Nat.div_self (Nat.two_pow_pos 31)]
      generalize w / 2 ^ 31 = x
      have h2 : (x ^^^ 1) % 2 = (x % 2) ^^^ 1 := by
        have := Nat.xor_mod_two_pow (a := x) (b := 1) (n := 1)
        simpa using this
      rw [h2]
      rcases Nat.mod_two_eq_zero_or_one x with h | h <;> rw [h] <;> rfl
  unfold Format.read at r ⊢
  simp only at r ⊢
  rw [key.1, key.2]
  split at r
  · rename_i hc
    rw [if_pos hc]
    cases r; rfl
  · rename_i hc
    rw [if_neg hc]
    split at r
    · rename_i hc2
      rw [if_pos hc2]
      cases r; rfl
    · split at r <;> cases r
end Go.Sx

/- Products and quotients of complex floating numbers by their values. -/
namespace Go.Sx
open Go Ieee
set_option linter.unusedVariables false
set_option linter.unusedSimpArgs false

/-- Neither part is too great beside the other, if both are there. -/
def Gc (c x y : Rat) : Prop := (x ≠ 0 → qa y ≤ c * qa x) ∧ (y ≠ 0 → qa x ≤ c * qa y)
theorem Gc.symm {c x y : Rat} (h : Gc c x y) : Gc c y x := ⟨h.2, h.1⟩
theorem Gc.mono {c d x y : Rat} (h : Gc c x y) (hc : c ≤ d) : Gc d x y :=
  ⟨fun hx => by have := h.1 hx; have := Rat.mul_le_mul_of_nonneg_right hc (qa_nn x); grind, fun hy => by have := h.2 hy; have := Rat.mul_le_mul_of_nonneg_right hc (qa_nn y); grind⟩
theorem Gc.neg {c x y : Rat} (h : Gc c x y) : Gc c x (-y) := ⟨fun hx => by rw [qa_neg]; exact h.1 hx, fun hy => by rw [qa_neg]; exact h.2 fun h0 => hy (by rw [h0]; grind)⟩
/-- Nothing, or of a size that 32 bits have. -/
def Md (k : Int) (x : Rat) : Prop := x = 0 ∨ (pw (-150) ≤ qa x ∧ qa x ≤ pw k)
theorem Md.mono {k l : Int} {x : Rat} (h : Md k x) (hl : k ≤ l) : Md l x := h.imp id fun ⟨a, b⟩ => ⟨a, Rat.le_trans b (pw_le hl)⟩
theorem Md.le {k : Int} {x : Rat} (h : Md k x) : qa x ≤ pw k := by
  rcases h with rfl | h
  · rw [qa_zero]; exact Rat.le_of_lt (pw_pos k)
  · exact h.2
/-- Nothing, or at least so much. -/
def Lo (l : Int) (x : Rat) : Prop := x = 0 ∨ pw l ≤ qa x
theorem Md.lo {k : Int} {x : Rat} (h : Md k x) : Lo (-150) x := h.imp id (·.1)
theorem Lo.mono {k l : Int} {x : Rat} (h : Lo k x) (hl : l ≤ k) : Lo l x := h.imp id fun a => Rat.le_trans (pw_le hl) a
theorem Lo.mul {k l : Int} {x y : Rat} (hx : Lo k x) (hy : Lo l y) : Lo (k + l) (x * y) := by
  rcases hx with rfl | hx
  · left; rw [Rat.zero_mul]
  rcases hy with rfl | hy
  · left; rw [Rat.mul_zero]
  right
  rw [qa_mul, pw_add]
  exact Rat.le_trans (Rat.mul_le_mul_of_nonneg_left hy (Rat.le_of_lt (pw_pos k))) (Rat.mul_le_mul_of_nonneg_right hx (qa_nn y))
theorem qa_mul_le {x y : Rat} {k l : Int} (hx : qa x ≤ pw k) (hy : qa y ≤ pw l) : qa (x * y) ≤ pw (k + l) := by
  rw [qa_mul, pw_add]
  exact Rat.le_trans (Rat.mul_le_mul_of_nonneg_left hy (qa_nn x)) (Rat.mul_le_mul_of_nonneg_right hx (Rat.le_of_lt (pw_pos l)))
theorem rn_of {x : Rat} {k l : Int} (h : Lo l x) (hk : qa x ≤ pw k) (h1 : k ≤ 900) (h2 : -900 ≤ l) : Rn x := h.imp id fun a => ⟨Rat.le_trans (pw_le h2) a, Rat.le_trans hk (pw_le h1)⟩
theorem Nr.lo' {z t : Rat} {l : Int} (h : Nr eD z t) (ht : Lo l t) : Lo (l - 1) z := by
  rcases ht with rfl | ht
  · exact .inl h.zero
  · right
    have h1 := h.lo
    have h2 := eD_le
    have h3 := Rat.mul_le_mul_of_nonneg_right h2 (qa_nn t)
    have h4 := pw_pred l
    have h5 := pw_pos (l - 1)
    grind
theorem Nr.up' {z t : Rat} {k : Int} (h : Nr eD z t) (ht : qa t ≤ pw k) : qa z ≤ pw (k + 1) := by
  have h1 := h.up
  have h3 := Rat.mul_le_mul_of_nonneg_right eD_le (qa_nn t)
  rw [pw_succ]
  have := qa_nn t
  grind
theorem Nr.ne {z t : Rat} (h : Nr eD z t) (hz : z ≠ 0) : t ≠ 0 := fun h0 => hz (by subst h0; exact h.zero)
theorem Nr.nz {z t : Rat} (h : Nr eD z t) (ht : t ≠ 0) : z ≠ 0 := fun h0 => by
  subst h0
  have h1 := h.lo
  have h3 := Rat.mul_le_mul_of_nonneg_right eD_le (qa_nn t)
  have := qa_pos ht
  rw [qa_zero] at h1
  grind
/-- The two bounds that are used below. -/
theorem Nr.a {z t : Rat} (h : Nr eD z t) : qa z ≤ 1001 / 1000 * qa t := by
  have h1 := h.up
  have h3 := Rat.mul_le_mul_of_nonneg_right eD_le (qa_nn t)
  have := qa_nn t
  grind
theorem Nr.b {z t : Rat} (h : Nr eD z t) : qa t ≤ 1001 / 1000 * qa z := by
  have h1 := h.lo
  have h3 := Rat.mul_le_mul_of_nonneg_right eD_le (qa_nn t)
  have := qa_nn t
  grind
/-- Two floating numbers are beside their sum. -/
def Gr (A B : Rat) : Prop := A + B ≠ 0 → pw (-54) * qa A ≤ qa (A + B) ∧ pw (-54) * qa B ≤ qa (A + B)
theorem Gr.lo {A B : Rat} {l : Int} (h : Gr A B) (hA : Lo l A) (hB : Lo l B) : Lo (l - 54) (A + B) := by
  by_cases h0 : A + B = 0
  · exact .inl h0
  · right
    obtain ⟨g1, g2⟩ := h h0
    rcases hA with rfl | hA
    · rcases hB with rfl | hB
      · exact absurd (by grind) h0
      · rw [show (0 : Rat) + B = B by grind]
        exact Rat.le_trans (pw_le (by omega)) hB
    · have := Rat.mul_le_mul_of_nonneg_left hA (Rat.le_of_lt (pw_pos (-54)))
      rw [← pw_add, show (-54 : Int) + l = l - 54 by omega] at this
      exact Rat.le_trans this g1
theorem Gr.T {A B : Rat} (h : Gr A B) (h0 : A + B ≠ 0) : qa A ≤ pw 54 * qa (A + B) ∧ qa B ≤ pw 54 * qa (A + B) := by
  obtain ⟨g1, g2⟩ := h h0
  have e : pw 54 * pw (-54) = 1 := by rw [← pw_add]; exact pw_zero
  have p := Rat.le_of_lt (pw_pos 54)
  have k1 := Rat.mul_le_mul_of_nonneg_left g1 p
  have k2 := Rat.mul_le_mul_of_nonneg_left g2 p
  rw [← Rat.mul_assoc, e, Rat.one_mul] at k1 k2
  exact ⟨k1, k2⟩
theorem add_le {x y : Rat} {k : Int} (hx : qa x ≤ pw k) (hy : qa y ≤ pw k) : qa (x + y) ≤ pw (k + 1) := by
  have := qa_add x y
  rw [pw_succ]
  grind
/-- A product's steps. -/
def Mu (x y v w p q : Rat) : Prop := ∃ A B C E, Nr eD A (x * v) ∧ Nr eD B (y * w) ∧ Nr eD p (A + -B) ∧ Nr eD C (x * w) ∧ Nr eD E (y * v) ∧ Nr eD q (C + E) ∧ Gr A (-B) ∧ Gr C E
theorem W_neg {w : Nat} {x : Rat} (h : W w x) : W (ngF w) (-x) := by
  obtain ⟨t, n, j, r2, rfl⟩ := h
  exact ⟨!t, n, j, ng_read r2, sg_not _ _⟩
theorem W_gr {u v : Nat} {x y : Rat} (hu : W u x) (hv : W v y) : Gr x y := fun h => W_grid hu hv h
theorem mul_Mu {a b c d : Nat} {x y v w : Rat} {k l : Int} (ha : W a x) (hb : W b y) (hc : W c v) (hd : W d w) (hx : Md k x) (hy : Md k y) (hv : Md l v) (hw : Md l w) (hk : k + l ≤ 400) :
    ∃ re im p q, cMulBits a b c d = some (re, im) ∧ W re p ∧ W im q ∧ Mu x y v w p q := by
  have step : ∀ {s t : Rat}, Md k s → Md l t → Rn (s * t) ∧ Lo (-300) (s * t) ∧ qa (s * t) ≤ pw (k + l) := fun hs ht => by
    have h1 := hs.lo.mul ht.lo
    have h2 := qa_mul_le hs.le ht.le
    exact ⟨rn_of h1 h2 (by omega) (by omega), h1, h2⟩
  obtain ⟨n1, l1, u1⟩ := step hx hv
  obtain ⟨n2, l2, u2⟩ := step hy hw
  obtain ⟨n3, l3, u3⟩ := step hx hw
  obtain ⟨n4, l4, u4⟩ := step hy hv
  obtain ⟨ac, A, e1, hA, rA⟩ := W_mul ha hc n1
  obtain ⟨bd, B, e2, hB, rB⟩ := W_mul hb hd n2
  obtain ⟨ad, C, e3, hC, rC⟩ := W_mul ha hd n3
  obtain ⟨bc, E, e4, hE, rE⟩ := W_mul hb hc n4
  have gAB : Gr A (-B) := W_gr hA (W_neg hB)
  have gCE : Gr C E := W_gr hC hE
  have lB := rB.lo' l2
  have lB' : Lo (-301) (-B) := by
    rcases lB with h | h
    · left; rw [h]; grind
    · right; rw [qa_neg]; exact h
  have uB : qa (-B) ≤ pw (k + l + 1) := by rw [qa_neg]; exact rB.up' u2
  have m1 : Rn (A + -B) := rn_of (gAB.lo (rA.lo' l1) lB') (add_le (rA.up' u1) uB) (by omega) (by omega)
  have m2 : Rn (C + E) := rn_of (gCE.lo (rC.lo' l3) (rE.lo' l4)) (add_le (rC.up' u3) (rE.up' u4)) (by omega) (by omega)
  obtain ⟨re, p, e5, hp, rp⟩ := W_sub hA hB (by rw [show A - B = A + -B by grind]; exact m1)
  obtain ⟨im, q, e6, hq, rq⟩ := W_add hC hE m2
  rw [show A - B = A + -B by grind] at rp
  refine ⟨re, im, p, q, ?_, hp, hq, A, B, C, E, rA, rB, rp, rC, rE, rq, gAB, gCE⟩
  unfold cMulBits
  rw [e1, e2, Option.bind_some, Option.bind_some, e5, Option.bind_some, e3, e4, Option.bind_some, Option.bind_some, e6]
  rfl
theorem Mu.bd {x y v w p q X N : Rat} (h : Mu x y v w p q) (hx : qa x ≤ X) (hy : qa y ≤ X) (hv : qa v ≤ N) (hw : qa w ≤ N) : qa p ≤ 3 * (X * N) ∧ qa q ≤ 3 * (X * N) := by
  obtain ⟨A, B, C, E, rA, rB, rp, rC, rE, rq, _, _⟩ := h
  have hX : 0 ≤ X := Rat.le_trans (qa_nn x) hx
  have pr : ∀ {s t : Rat}, qa s ≤ X → qa t ≤ N → qa (s * t) ≤ X * N := fun hs ht => by
    rw [qa_mul]
    exact Rat.le_trans (Rat.mul_le_mul_of_nonneg_left ht (qa_nn _)) (Rat.mul_le_mul_of_nonneg_right hs (Rat.le_trans (qa_nn _) ht))
  have a1 := rA.a; have a2 := rB.a; have a3 := rC.a; have a4 := rE.a; have a5 := rp.a; have a6 := rq.a
  have b1 := pr hx hv; have b2 := pr hy hw; have b3 := pr hx hw; have b4 := pr hy hv
  have c1 := qa_add A (-B); have c2 := qa_add C E
  rw [qa_neg] at c1
  have := qa_nn (x * v)
  constructor <;> grind
/-- The one part beside the other. -/
theorem mixN {a b v w A B C E p q S K T : Rat} (a0 : 0 ≤ a) (b0 : 0 ≤ b) (K0 : 0 ≤ K) (T0 : 0 ≤ T) (p0 : 0 ≤ p) (h1 : a * v ≤ 1001 / 1000 * A) (h2 : b * w ≤ 1001 / 1000 * B) (h3 : C ≤ 1001 / 1000 * (a * w)) (h4 : E ≤ 1001 / 1000 * (b * v)) (h5 : q ≤ 1001 / 1000 * (C + E))
    (h6 : A ≤ T * S) (h7 : B ≤ T * S) (h8 : S ≤ 1001 / 1000 * p) (h9 : w ≤ K * v) (h10 : v ≤ K * w) : q ≤ 4 * (K * T * p) := by
  have k1 := Rat.mul_le_mul_of_nonneg_left h9 a0
  have k2 := Rat.mul_le_mul_of_nonneg_left h10 b0
  have k3 := Rat.mul_le_mul_of_nonneg_left h1 K0
  have k4 := Rat.mul_le_mul_of_nonneg_left h2 K0
  have k5 := Rat.mul_le_mul_of_nonneg_left h6 K0
  have k6 := Rat.mul_le_mul_of_nonneg_left h7 K0
  have k7 := Rat.mul_le_mul_of_nonneg_left h8 (Rat.mul_nonneg K0 T0)
  have q1 := Rat.mul_nonneg (Rat.mul_nonneg K0 T0) p0
  have r1 : a * (K * v) = K * (a * v) := by grind
  have r2 : b * (K * w) = K * (b * w) := by grind
  have r3 : K * (1001 / 1000 * A) = 1001 / 1000 * (K * A) := by grind
  have r4 : K * (1001 / 1000 * B) = 1001 / 1000 * (K * B) := by grind
  have r5 : K * (T * S) = K * T * S := by grind
  have r6 : K * T * (1001 / 1000 * p) = 1001 / 1000 * (K * T * p) := by grind
  rw [r1] at k1
  rw [r2] at k2
  rw [r3] at k3
  rw [r4] at k4
  rw [r5] at k5 k6
  rw [r6] at k7
  clear r1 r2 r3 r4 r5 r6 h1 h2 h6 h7 h8 h9 h10
  generalize K * (a * v) = x1 at *
  generalize K * (b * w) = x2 at *
  generalize K * A = x3 at *
  generalize K * B = x4 at *
  generalize K * T * S = x5 at *
  generalize K * T * p = x6 at *
  generalize a * w = x7 at *
  generalize b * v = x8 at *
  grind
theorem pw87 : pw 87 = 4 * (pw 31 * pw 54) := by
  rw [← pw_add, show (87 : Int) = 2 + (31 + 54) from rfl, pw_add]
  rfl
theorem Mu.mix {x y v w p q : Rat} (h : Mu x y v w p q) (h1 : qa w ≤ pw 31 * qa v) (h2 : qa v ≤ pw 31 * qa w) : Gc (pw 87) p q := by
  obtain ⟨A, B, C, E, rA, rB, rp, rC, rE, rq, g1, g2⟩ := h
  have x0 := qa_nn x; have y0 := qa_nn y
  have K0 := Rat.le_of_lt (pw_pos 31)
  have T0 := Rat.le_of_lt (pw_pos 54)
  have c1 := qa_add A (-B); have c2 := qa_add C E
  rw [qa_neg] at c1
  refine ⟨fun hp => ?_, fun hq => ?_⟩
  · obtain ⟨t1, t2⟩ := g1.T (rp.ne hp)
    rw [qa_neg] at t2
    have := mixN (a := qa x) (b := qa y) (v := qa v) (w := qa w) (A := qa A) (B := qa B) (C := qa C) (E := qa E) (p := qa p) (q := qa q) (K := pw 31) (T := pw 54) x0 y0 K0 T0 (qa_nn p) (by rw [← qa_mul]; exact rA.b) (by rw [← qa_mul]; exact rB.b) (by rw [← qa_mul]; exact rC.a) (by rw [← qa_mul]; exact rE.a) (by have := rq.a; grind) t1 t2 rp.b h1 h2
    rw [pw87]
    grind
  · obtain ⟨t1, t2⟩ := g2.T (rq.ne hq)
    have := mixN (a := qa x) (b := qa y) (v := qa w) (w := qa v) (A := qa C) (B := qa E) (C := qa A) (E := qa B) (p := qa q) (q := qa p) (K := pw 31) (T := pw 54) x0 y0 K0 T0 (qa_nn q) (by rw [← qa_mul]; exact rC.b) (by rw [← qa_mul]; exact rE.b) (by rw [← qa_mul]; exact rA.a) (by rw [← qa_mul]; exact rB.a) (by have := rp.a; grind) t1 t2 rq.b h2 h1
    rw [pw87]
    grind
/-- Two numbers, each near to a multiple of its own. -/
theorem gc_scale {c x y p q m : Rat} (hc : 0 ≤ c) (h : Gc c x y) (hm : 0 < m) (a1 : qa p ≤ 101 / 100 * (m * qa x)) (a2 : m * qa x ≤ 101 / 100 * qa p) (b1 : qa q ≤ 101 / 100 * (m * qa y)) (b2 : m * qa y ≤ 101 / 100 * qa q) : Gc (21 / 20 * c) p q := by
  have key : ∀ {x y p q : Rat}, (x ≠ 0 → qa y ≤ c * qa x) → m * qa x ≤ 101 / 100 * qa p → qa p ≤ 101 / 100 * (m * qa x) → qa q ≤ 101 / 100 * (m * qa y) → p ≠ 0 → qa q ≤ 21 / 20 * c * qa p := by
    intro x y p q h1 h2 h3 h4 hp
    have hx : x ≠ 0 := by
      rintro rfl
      rw [qa_zero, Rat.mul_zero, Rat.mul_zero] at h3
      have := qa_pos hp
      grind
    have k1 := Rat.mul_le_mul_of_nonneg_left (h1 hx) (Rat.le_of_lt hm)
    have k2 := Rat.mul_le_mul_of_nonneg_left h2 hc
    have r1 : m * (c * qa x) = c * (m * qa x) := by grind
    have r2 : c * (101 / 100 * qa p) = 101 / 100 * (c * qa p) := by grind
    rw [r1] at k1
    rw [r2] at k2
    have r3 : 21 / 20 * c * qa p = 21 / 20 * (c * qa p) := by grind
    rw [r3]
    have := Rat.mul_nonneg hc (qa_nn p)
    generalize c * qa p = z at *
    generalize c * (m * qa x) = z2 at *
    generalize m * qa y = z3 at *
    grind
  exact ⟨fun hp => key h.1 a2 a1 b1 hp, fun hq => key h.2 b2 b1 a1 hq⟩
theorem Nr.zz {z t : Rat} (h : Nr eD z t) (ht : t = 0) : z = 0 := by subst ht; exact h.zero
/-- By a real, or an imaginary, number. -/
theorem Mu.scale {x y v w p q c : Rat} (h : Mu x y v w p q) (hvw : v = 0 ∨ w = 0) (hne : ¬ (v = 0 ∧ w = 0)) (hc : 0 ≤ c) (hg : Gc c x y) : Gc (21 / 20 * c) p q := by
  obtain ⟨A, B, C, E, rA, rB, rp, rC, rE, rq, g1, g2⟩ := h
  rcases hvw with rfl | rfl
  · have hA := rA.zz (Rat.mul_zero x)
    have hE := rE.zz (Rat.mul_zero y)
    subst hA hE
    rw [show (0 : Rat) + -B = -B by grind] at rp
    rw [show C + 0 = C by grind] at rq
    have p1 := rp.a; have p2 := rp.b; have q1 := rq.a; have q2 := rq.b
    have b1 := rB.a; have b2 := rB.b; have c1 := rC.a; have c2 := rC.b
    rw [qa_neg] at p1 p2
    rw [qa_mul] at b1 b2 c1 c2
    refine gc_scale (m := qa w) hc hg.symm (qa_pos fun h => hne ⟨rfl, h⟩) ?_ ?_ ?_ ?_ <;> grind
  · have hB := rB.zz (Rat.mul_zero y)
    have hC := rC.zz (Rat.mul_zero x)
    subst hB hC
    rw [show A + -0 = A by grind] at rp
    rw [show (0 : Rat) + E = E by grind] at rq
    have p1 := rp.a; have p2 := rp.b; have q1 := rq.a; have q2 := rq.b
    have b1 := rA.a; have b2 := rA.b; have c1 := rE.a; have c2 := rE.b
    rw [qa_mul] at b1 b2 c1 c2
    refine gc_scale (m := qa v) hc hg (qa_pos fun h => hne ⟨h, rfl⟩) ?_ ?_ ?_ ?_ <;> grind
end Go.Sx

/- Quotients of complex floating numbers by their values. -/
namespace Go.Sx
open Go Ieee
set_option linter.unusedVariables false
set_option linter.unusedSimpArgs false

/-- A quotient's steps, where d is not greater than c. -/
def Sm (a b c d e f : Rat) : Prop := ∃ ρ rd den β n1 α n2, Nr eD ρ (d / c) ∧ Nr eD rd (ρ * d) ∧ Nr eD den (c + rd) ∧ Nr eD β (b * ρ) ∧ Nr eD n1 (a + β) ∧ Nr eD e (n1 / den) ∧ Nr eD α (a * ρ) ∧ Nr eD n2 (b + -α) ∧ Nr eD f (n2 / den) ∧ Gr a β ∧ Gr b (-α) ∧ qa d ≤ qa c ∧ c ≠ 0
theorem qa_div {x y : Rat} (hy : y ≠ 0) : qa (x / y) * qa y = qa x := by
  rw [← qa_mul]
  congr 1
  grind
/-- What is near has the same sign. -/
theorem Nr.sign {z t : Rat} (h : Nr eD z t) : 0 ≤ z * t := by
  have h1 : qa (z - t) ≤ eD * qa t := h
  have h3 := Rat.mul_le_mul_of_nonneg_right eD_le (qa_nn t)
  have a := qa_le (z - t)
  rcases Rat.le_total (a := 0) (b := t) with ht | ht
  · rw [qa_nnx ht] at h1 h3
    refine Rat.mul_nonneg ?_ ht
    grind
  · have e : qa t = -t := by rw [← qa_neg]; exact qa_nnx (by grind)
    rw [e] at h1 h3
    have := Rat.mul_nonneg (show 0 ≤ -z by grind) (show 0 ≤ -t by grind)
    grind
theorem qa_same {x y : Rat} (h : 0 ≤ x * y) : qa (x + y) = qa x + qa y := by
  rcases Rat.le_total (a := 0) (b := x) with hx | hx <;> rcases Rat.le_total (a := 0) (b := y) with hy | hy
  · rw [qa_nnx hx, qa_nnx hy, qa_nnx (by grind)]
  · by_cases h0 : x = 0
    · rw [h0, qa_zero, show (0 : Rat) + y = y by grind]; grind
    · have p : 0 < x := by grind
      have hy0 : 0 ≤ y := by
        refine Rat.le_of_mul_le_mul_left ?_ p
        grind
      have : y = 0 := by grind
      rw [this, qa_zero, show x + 0 = x by grind]; grind
  · by_cases h0 : y = 0
    · rw [h0, qa_zero, show x + 0 = x by grind]; grind
    · have p : 0 < y := by grind
      have hx0 : 0 ≤ x := by
        refine Rat.le_of_mul_le_mul_right ?_ p
        grind
      have : x = 0 := by grind
      rw [this, qa_zero, show (0 : Rat) + y = y by grind]; grind
  · rw [← qa_neg, ← qa_neg x, ← qa_neg y, qa_nnx (show 0 ≤ -x by grind), qa_nnx (show 0 ≤ -y by grind), qa_nnx (by grind)]
    grind
/-- The divisor's steps. -/
theorem den_facts {c d ρ rd : Rat} (hc : c ≠ 0) (h1 : Nr eD ρ (d / c)) (h2 : Nr eD rd (ρ * d)) : 0 ≤ c * rd := by
  have s1 := h1.sign
  have s2 := h2.sign
  by_cases h0 : ρ * d = 0
  · rw [h2.zz h0]; grind
  · -- c² times the first, times the second, by the square of ρ d
    have hcc : 0 < c * c := by
      rcases Rat.le_total (a := 0) (b := c) with h | h
      · exact Rat.mul_pos (by grind) (by grind)
      · have := Rat.mul_pos (show 0 < -c by grind) (show 0 < -c by grind)
        grind
    have t1 : 0 ≤ ρ * d * c := by
      have := Rat.mul_nonneg s1 (Rat.le_of_lt hcc)
      have e : ρ * (d / c) * (c * c) = ρ * d * c := by grind
      rw [e] at this
      exact this
    have hss : 0 < (ρ * d) * (ρ * d) := by
      generalize ρ * d = y at *
      rcases Rat.le_total (a := 0) (b := y) with h | h
      · exact Rat.mul_pos (by grind) (by grind)
      · have := Rat.mul_pos (show 0 < -y by grind) (show 0 < -y by grind)
        grind
    have t2 := Rat.mul_nonneg t1 s2
    refine Rat.le_of_mul_le_mul_right ?_ hss
    grind
theorem Nr.neg {z t : Rat} (h : Nr eD z t) : Nr eD (-z) (-t) := by
  unfold Nr at *
  rw [show -z - -t = -(z - t) by grind, qa_neg, qa_neg]
  exact h
theorem lo_neg {l : Int} {x : Rat} (h : Lo l x) : Lo l (-x) := by
  rcases h with h | h
  · left; rw [h]; grind
  · right; rw [qa_neg]; exact h
theorem Lo.div {x y : Rat} {k l : Int} (h : Lo k x) (hy : y ≠ 0) (hl : qa y ≤ pw l) : Lo (k - l) (x / y) := by
  rcases h with rfl | h
  · left; rw [Rat.div_def, Rat.zero_mul]
  · right
    have p := qa_pos hy
    refine Rat.le_of_mul_le_mul_right ?_ p
    rw [qa_div hy]
    have := Rat.mul_le_mul_of_nonneg_left hl (Rat.le_of_lt (pw_pos (k - l)))
    rw [← pw_add, show k - l + l = k by omega] at this
    exact Rat.le_trans this h
theorem qa_div_le {x y : Rat} {k l : Int} (hy : y ≠ 0) (hx : qa x ≤ pw k) (hl : pw l ≤ qa y) : qa (x / y) ≤ pw (k - l) := by
  have p := qa_pos hy
  refine Rat.le_of_mul_le_mul_right ?_ p
  rw [qa_div hy]
  have := Rat.mul_le_mul_of_nonneg_left hl (Rat.le_of_lt (pw_pos (k - l)))
  rw [← pw_add, show k - l + l = k by omega] at this
  exact Rat.le_trans hx this
/-- The steps, where the first part is the greater. -/
theorem sm_steps {a b c d : Nat} {A B C E : Rat} {k l : Int} (ha : W a A) (hb : W b B) (hc : W c C) (hd : W d E) (mA : Md k A) (mB : Md k B) (mC : Md l C) (mE : Md l E) (h0 : C ≠ 0) (hle : qa E ≤ qa C) (hk0 : 0 ≤ k) (hk : k ≤ 200) (hl0 : 0 ≤ l) (hl : l ≤ 190) :
    ∃ ratio rd denom br n1 e ar n2 f p q, floatBits .quo .f64 d c = some ratio ∧ floatBits .mul .f64 ratio d = some rd ∧ floatBits .add .f64 c rd = some denom ∧ floatBits .mul .f64 b ratio = some br ∧ floatBits .add .f64 a br = some n1 ∧ floatBits .quo .f64 n1 denom = some e ∧
      floatBits .mul .f64 a ratio = some ar ∧ floatBits .sub .f64 b ar = some n2 ∧ floatBits .quo .f64 n2 denom = some f ∧ W e p ∧ W f q ∧ Sm A B C E p q := by
  have loC : pw (-150) ≤ qa C := mC.lo.resolve_left h0
  -- the ratio
  have u1 : qa (E / C) ≤ pw 0 := by
    refine Rat.le_of_mul_le_mul_right ?_ (qa_pos h0)
    rw [qa_div h0, pw_zero, Rat.one_mul]
    exact hle
  have l1 : Lo (-150 - l) (E / C) := mE.lo.div h0 mC.le
  obtain ⟨ratio, ρ, e1, w1, r1⟩ := W_quo hd hc h0 (rn_of l1 u1 (by omega) (by omega))
  have lρ := r1.lo' l1
  have uρ := r1.up' u1
  -- the divisor
  have l2 := lρ.mul mE.lo
  have u2 := qa_mul_le uρ mE.le
  obtain ⟨rd, δ, e2, w2, r2⟩ := W_mul w1 hd (rn_of l2 u2 (by omega) (by omega))
  have sg0 := den_facts h0 r1 r2
  have eq0 := qa_same sg0
  have uδ := r2.up' u2
  have l3 : pw (-150) ≤ qa (C + δ) := by rw [eq0]; have := qa_nn δ; grind
  have u3 : qa (C + δ) ≤ pw (l + 3) := by
    have h1 := add_le (Rat.le_trans mC.le (pw_le (show l ≤ l + 2 by omega))) (Rat.le_trans uδ (pw_le (show 0 + 1 + l + 1 ≤ l + 2 by omega)))
    exact Rat.le_trans h1 (pw_le (by omega))
  obtain ⟨denom, dn, e3, w3, r3⟩ := W_add hc w2 (rn_of (.inr l3) u3 (by omega) (by omega))
  have ne3 : C + δ ≠ 0 := fun h => by
    rw [h, qa_zero] at l3
    have := pw_pos (-150)
    grind
  have nd := r3.nz ne3
  have ld : pw (-151) ≤ qa dn := (r3.lo' (.inr l3 : Lo (-150) (C + δ))).resolve_left nd
  have ud := r3.up' u3
  -- the first part
  have l4 := mB.lo.mul lρ
  have u4 := qa_mul_le mB.le uρ
  obtain ⟨br, β, e4, w4, r4⟩ := W_mul hb w1 (rn_of l4 u4 (by omega) (by omega))
  have g1 : Gr A β := W_gr ha w4
  have l5 := g1.lo (l := -452 - l) (mA.lo.mono (by omega)) ((r4.lo' l4).mono (by omega))
  have u5 := add_le (Rat.le_trans mA.le (pw_le (show k ≤ k + 2 by omega))) (Rat.le_trans (r4.up' u4) (pw_le (show k + (0 + 1) + 1 ≤ k + 2 by omega)))
  obtain ⟨n1, ν, e5, w5, r5⟩ := W_add ha w4 (rn_of l5 u5 (by omega) (by omega))
  have l6 := (r5.lo' l5).div nd ud
  have u6 := qa_div_le nd (r5.up' u5) ld
  obtain ⟨e, p, e6, w6, r6⟩ := W_quo w5 w3 nd (rn_of l6 u6 (by omega) (by omega))
  -- the second part
  have l7 := mA.lo.mul lρ
  have u7 := qa_mul_le mA.le uρ
  obtain ⟨ar, α, e7, w7, r7⟩ := W_mul ha w1 (rn_of l7 u7 (by omega) (by omega))
  have g2 : Gr B (-α) := W_gr hb (W_neg w7)
  have l8 := g2.lo (l := -452 - l) (mB.lo.mono (by omega)) (lo_neg ((r7.lo' l7).mono (by omega)))
  have u8 := add_le (y := -α) (Rat.le_trans mB.le (pw_le (show k ≤ k + 2 by omega))) (by rw [qa_neg]; exact Rat.le_trans (r7.up' u7) (pw_le (show k + (0 + 1) + 1 ≤ k + 2 by omega)))
  obtain ⟨n2, μ, e8, w8, r8⟩ := W_sub hb w7 (by rw [show B - α = B + -α by grind]; exact rn_of l8 u8 (by omega) (by omega))
  rw [show B - α = B + -α by grind] at r8
  have l9 := (r8.lo' l8).div nd ud
  have u9 := qa_div_le nd (r8.up' u8) ld
  obtain ⟨f, q, e9, w9, r9⟩ := W_quo w8 w3 nd (rn_of l9 u9 (by omega) (by omega))
  exact ⟨ratio, rd, denom, br, n1, e, ar, n2, f, p, q, e1, e2, e3, e4, e5, e6, e7, e8, e9, w6, w9, ρ, δ, dn, β, ν, α, μ, r1, r2, r3, r4, r5, r6, r7, r8, r9, g1, g2, hle, h0⟩
/-- The steps, where the second part is the greater. -/
theorem sm_steps' {a b c d : Nat} {A B C E : Rat} {k l : Int} (ha : W a A) (hb : W b B) (hc : W c C) (hd : W d E) (mA : Md k A) (mB : Md k B) (mC : Md l C) (mE : Md l E) (h0 : E ≠ 0) (hle : qa C ≤ qa E) (hk0 : 0 ≤ k) (hk : k ≤ 200) (hl0 : 0 ≤ l) (hl : l ≤ 190) :
    ∃ ratio rc denom ar n1 e br n2 f p q, floatBits .quo .f64 c d = some ratio ∧ floatBits .mul .f64 ratio c = some rc ∧ floatBits .add .f64 d rc = some denom ∧ floatBits .mul .f64 a ratio = some ar ∧ floatBits .add .f64 ar b = some n1 ∧ floatBits .quo .f64 n1 denom = some e ∧
      floatBits .mul .f64 b ratio = some br ∧ floatBits .sub .f64 br a = some n2 ∧ floatBits .quo .f64 n2 denom = some f ∧ W e p ∧ W f q ∧ Sm B (-A) E (-C) p q := by
  have loE : pw (-150) ≤ qa E := mE.lo.resolve_left h0
  have u1 : qa (C / E) ≤ pw 0 := by
    refine Rat.le_of_mul_le_mul_right ?_ (qa_pos h0)
    rw [qa_div h0, pw_zero, Rat.one_mul]
    exact hle
  have l1 : Lo (-150 - l) (C / E) := mC.lo.div h0 mE.le
  obtain ⟨ratio, ρ, e1, w1, r1⟩ := W_quo hc hd h0 (rn_of l1 u1 (by omega) (by omega))
  have lρ := r1.lo' l1
  have uρ := r1.up' u1
  have l2 := lρ.mul mC.lo
  have u2 := qa_mul_le uρ mC.le
  obtain ⟨rc, δ, e2, w2, r2⟩ := W_mul w1 hc (rn_of l2 u2 (by omega) (by omega))
  have sg0 := den_facts h0 r1 r2
  have eq0 := qa_same sg0
  have uδ := r2.up' u2
  have l3 : pw (-150) ≤ qa (E + δ) := by rw [eq0]; have := qa_nn δ; grind
  have u3 : qa (E + δ) ≤ pw (l + 3) := by
    have h1 := add_le (Rat.le_trans mE.le (pw_le (show l ≤ l + 2 by omega))) (Rat.le_trans uδ (pw_le (show 0 + 1 + l + 1 ≤ l + 2 by omega)))
    exact Rat.le_trans h1 (pw_le (by omega))
  obtain ⟨denom, dn, e3, w3, r3⟩ := W_add hd w2 (rn_of (.inr l3) u3 (by omega) (by omega))
  have ne3 : E + δ ≠ 0 := fun h => by
    rw [h, qa_zero] at l3
    have := pw_pos (-150)
    grind
  have nd := r3.nz ne3
  have ld : pw (-151) ≤ qa dn := (r3.lo' (.inr l3 : Lo (-150) (E + δ))).resolve_left nd
  have ud := r3.up' u3
  have l4 := mA.lo.mul lρ
  have u4 := qa_mul_le mA.le uρ
  obtain ⟨ar, β, e4, w4, r4⟩ := W_mul ha w1 (rn_of l4 u4 (by omega) (by omega))
  have g1 : Gr B β := W_gr hb w4
  have l5 := g1.lo (l := -452 - l) (mB.lo.mono (by omega)) ((r4.lo' l4).mono (by omega))
  have u5 := add_le (Rat.le_trans mB.le (pw_le (show k ≤ k + 2 by omega))) (Rat.le_trans (r4.up' u4) (pw_le (show k + (0 + 1) + 1 ≤ k + 2 by omega)))
  obtain ⟨n1, ν, e5, w5, r5⟩ := W_add w4 hb (by rw [show β + B = B + β by grind]; exact rn_of l5 u5 (by omega) (by omega))
  rw [show β + B = B + β by grind] at r5
  have l6 := (r5.lo' l5).div nd ud
  have u6 := qa_div_le nd (r5.up' u5) ld
  obtain ⟨e, p, e6, w6, r6⟩ := W_quo w5 w3 nd (rn_of l6 u6 (by omega) (by omega))
  have l7 := mB.lo.mul lρ
  have u7 := qa_mul_le mB.le uρ
  obtain ⟨br, α, e7, w7, r7⟩ := W_mul hb w1 (rn_of l7 u7 (by omega) (by omega))
  have g2 : Gr (-A) α := W_gr (W_neg ha) w7
  have l8 := g2.lo (l := -452 - l) (lo_neg (mA.lo.mono (by omega))) ((r7.lo' l7).mono (by omega))
  have u8 := add_le (x := -A) (y := α) (by rw [qa_neg]; exact Rat.le_trans mA.le (pw_le (show k ≤ k + 2 by omega))) (Rat.le_trans (r7.up' u7) (pw_le (show k + (0 + 1) + 1 ≤ k + 2 by omega)))
  obtain ⟨n2, μ, e8, w8, r8⟩ := W_sub w7 ha (by rw [show α - A = -A + α by grind]; exact rn_of l8 u8 (by omega) (by omega))
  rw [show α - A = -A + α by grind] at r8
  have l9 := (r8.lo' l8).div nd ud
  have u9 := qa_div_le nd (r8.up' u8) ld
  obtain ⟨f, q, e9, w9, r9⟩ := W_quo w8 w3 nd (rn_of l9 u9 (by omega) (by omega))
  refine ⟨ratio, rc, denom, ar, n1, e, br, n2, f, p, q, e1, e2, e3, e4, e5, e6, e7, e8, e9, w6, w9, -ρ, δ, dn, β, ν, -α, μ, ?_, ?_, r3, ?_, r5, r6, ?_, ?_, r9, g1, ?_, ?_, h0⟩
  · rw [show -C / E = -(C / E) by rw [Rat.div_def, Rat.div_def]; grind]
    exact r1.neg
  · rw [show -ρ * -C = ρ * C by grind]; exact r2
  · rw [show -A * -ρ = A * ρ by grind]; exact r4
  · rw [show B * -ρ = -(B * ρ) by grind]; exact r7.neg
  · rw [show -A + - -α = -A + α by grind]; exact r8
  · rw [show - -α = α by grind]; exact g2
  · rw [qa_neg]; exact hle
theorem Sm.bd {a b c d e f X : Rat} (h : Sm a b c d e f) (ha : qa a ≤ X) (hb : qa b ≤ X) : qa e * qa c ≤ 3 * X ∧ qa f * qa c ≤ 3 * X := by
  obtain ⟨ρ, rd, den, β, n1, α, n2, r1, r2, r3, r4, r5, r6, r7, r8, r9, g1, g2, hle, hc⟩ := h
  have sg0 := qa_same (den_facts hc r1 r2)
  have hd : qa c ≤ 1001 / 1000 * qa den := by
    have := r3.b
    rw [sg0] at this
    have := qa_nn rd
    grind
  have nd : den ≠ 0 := by
    rintro rfl
    rw [qa_zero] at hd
    have := qa_pos hc
    grind
  have hρ : qa ρ ≤ 1001 / 1000 := by
    have h1 := r1.a
    have h2 : qa (d / c) ≤ 1 := by
      refine Rat.le_of_mul_le_mul_right ?_ (qa_pos hc)
      rw [qa_div hc, Rat.one_mul]
      exact hle
    grind
  have X0 : 0 ≤ X := Rat.le_trans (qa_nn a) ha
  have key : ∀ {x y u n r : Rat}, qa x ≤ X → qa y ≤ X → Nr eD u (y * ρ) → qa n ≤ 1001 / 1000 * (qa x + qa u) → Nr eD r (n / den) → qa r * qa c ≤ 3 * X := by
    intro x y u n r hx hy hu hn hr
    have a1 := hu.a
    rw [qa_mul] at a1
    have a2 := Rat.mul_le_mul_of_nonneg_left hρ (qa_nn y)
    have a3 := hr.a
    have a4 := Rat.mul_le_mul_of_nonneg_right a3 (qa_nn den)
    have a5 := qa_div (x := n) nd
    have a6 := Rat.mul_le_mul_of_nonneg_left hd (qa_nn r)
    generalize qa (n / den) = z at *
    have r1 : 1001 / 1000 * z * qa den = 1001 / 1000 * (z * qa den) := by grind
    rw [r1, a5] at a4
    have r2 : qa r * (1001 / 1000 * qa den) = 1001 / 1000 * (qa r * qa den) := by grind
    rw [r2] at a6
    have r3 : qa y * (1001 / 1000) = 1001 / 1000 * qa y := by grind
    rw [r3] at a2
    generalize qa r * qa den = z2 at *
    generalize qa y * qa ρ = z3 at *
    grind
  refine ⟨key (x := a) (y := b) ha hb r4 ?_ r6, key (x := b) (y := a) hb ha r7 ?_ r9⟩
  · have := r5.a
    have := qa_add a β
    grind
  · have := r8.a
    have := qa_add b (-α)
    rw [qa_neg] at this
    grind
/-- One part of a quotient beside the other. -/
theorem smN {a b A B n m e f ρ s K T D : Rat} (a0 : 0 ≤ a) (b0 : 0 ≤ b) (A0 : 0 ≤ A) (B0 : 0 ≤ B) (K1 : 1 ≤ K) (T0 : 0 ≤ T) (D0 : 0 < D) (e0 : 0 ≤ e) (h1 : b * ρ ≤ 1001 / 1000 * B) (h2 : A ≤ 1001 / 1000 * (a * ρ)) (hρ : ρ ≤ 1001 / 1000) (hρ2 : 1 ≤ K * (1001 / 1000 * ρ))
    (h3 : m ≤ 1001 / 1000 * (b + A)) (h4 : a ≤ T * s) (h5 : B ≤ T * s) (h6 : s ≤ 1001 / 1000 * n) (h7 : n ≤ 1001 / 1000 * (e * D)) (h8 : f * D ≤ 1001 / 1000 * m) : f ≤ 4 * (K * T * e) := by
  -- b beside B
  have k1 := Rat.mul_le_mul_of_nonneg_left hρ2 b0
  have k2 := Rat.mul_le_mul_of_nonneg_left h1 (show 0 ≤ K by grind)
  have r1 : b * (K * (1001 / 1000 * ρ)) = 1001 / 1000 * (K * (b * ρ)) := by grind
  rw [r1, Rat.mul_one] at k1
  have r2 : K * (1001 / 1000 * B) = 1001 / 1000 * (K * B) := by grind
  rw [r2] at k2
  -- A beside a
  have k3 := Rat.mul_le_mul_of_nonneg_left hρ a0
  have r3 : a * (1001 / 1000) = 1001 / 1000 * a := by grind
  rw [r3] at k3
  -- K B and a
  have k4 := Rat.mul_le_mul_of_nonneg_left h5 (show 0 ≤ K by grind)
  have k5 := Rat.mul_le_mul_of_nonneg_right K1 a0
  have k6 := Rat.mul_le_mul_of_nonneg_left h4 (show 0 ≤ K by grind)
  have r4 : K * (T * s) = K * T * s := by grind
  rw [r4] at k4 k6
  have KT : 0 ≤ K * T := Rat.mul_nonneg (by grind) T0
  have k7 := Rat.mul_le_mul_of_nonneg_left h6 KT
  have k8 := Rat.mul_le_mul_of_nonneg_left h7 KT
  have r5 : K * T * (1001 / 1000 * n) = 1001 / 1000 * (K * T * n) := by grind
  have r6 : K * T * (1001 / 1000 * (e * D)) = 1001 / 1000 * (K * T * e * D) := by grind
  rw [r5] at k7
  rw [r6] at k8
  refine Rat.le_of_mul_le_mul_right ?_ D0
  have r7 : 4 * (K * T * e) * D = 4 * (K * T * e * D) := by grind
  rw [r7]
  have z0 : 0 ≤ K * T * e * D := Rat.mul_nonneg (Rat.mul_nonneg KT e0) (Rat.le_of_lt D0)
  clear r1 r2 r3 r4 r5 r6 r7 h1 h4 h5 h6 h7 hρ hρ2
  generalize K * (b * ρ) = x1 at *
  generalize K * B = x2 at *
  generalize a * ρ = x3 at *
  generalize K * T * s = x4 at *
  generalize K * T * n = x5 at *
  generalize K * T * e * D = x6 at *
  generalize K * a = x7 at *
  generalize f * D = x8 at *
  grind
theorem Sm.mix {a b c d e f : Rat} (h : Sm a b c d e f) (hd : qa c ≤ pw 31 * qa d) : Gc (pw 87) e f := by
  obtain ⟨ρ, rd, den, β, n1, α, n2, r1, r2, r3, r4, r5, r6, r7, r8, r9, g1, g2, hle, hc⟩ := h
  have sg0 := qa_same (den_facts hc r1 r2)
  have hdn : qa c ≤ 1001 / 1000 * qa den := by
    have := r3.b
    rw [sg0] at this
    have := qa_nn rd
    grind
  have nd : den ≠ 0 := by
    rintro rfl
    rw [qa_zero] at hdn
    have := qa_pos hc
    grind
  have c0 := qa_pos hc
  have K0 := pw_pos 31
  have T0 := Rat.le_of_lt (pw_pos 54)
  have K1 : 1 ≤ pw 31 := by decide +kernel
  have hρ : qa ρ ≤ 1001 / 1000 := by
    have h1 := r1.a
    have h2 : qa (d / c) ≤ 1 := by
      refine Rat.le_of_mul_le_mul_right ?_ c0
      rw [qa_div hc, Rat.one_mul]
      exact hle
    grind
  have hρ2 : 1 ≤ pw 31 * (1001 / 1000 * qa ρ) := by
    have h1 := r1.b
    have h2 : 1 ≤ pw 31 * qa (d / c) := by
      refine Rat.le_of_mul_le_mul_right ?_ c0
      rw [Rat.one_mul, Rat.mul_assoc, qa_div hc]
      exact hd
    have := Rat.mul_le_mul_of_nonneg_left h1 (Rat.le_of_lt K0)
    grind
  have q6 := qa_div (x := n1) nd
  have q9 := qa_div (x := n2) nd
  have e1 : qa n1 ≤ 1001 / 1000 * (qa e * qa den) := by
    have := Rat.mul_le_mul_of_nonneg_right r6.b (qa_nn den)
    rw [q6] at this
    grind
  have e2 : qa e * qa den ≤ 1001 / 1000 * qa n1 := by
    have := Rat.mul_le_mul_of_nonneg_right r6.a (qa_nn den)
    have r : 1001 / 1000 * qa (n1 / den) * qa den = 1001 / 1000 * (qa (n1 / den) * qa den) := by grind
    rw [r, q6] at this
    exact this
  have f1 : qa n2 ≤ 1001 / 1000 * (qa f * qa den) := by
    have := Rat.mul_le_mul_of_nonneg_right r9.b (qa_nn den)
    rw [q9] at this
    grind
  have f2 : qa f * qa den ≤ 1001 / 1000 * qa n2 := by
    have := Rat.mul_le_mul_of_nonneg_right r9.a (qa_nn den)
    have r : 1001 / 1000 * qa (n2 / den) * qa den = 1001 / 1000 * (qa (n2 / den) * qa den) := by grind
    rw [r, q9] at this
    exact this
  have s1 := qa_add a β
  have s2 := qa_add b (-α)
  rw [qa_neg] at s2
  have r5a := r5.a; have r8a := r8.a
  refine ⟨fun he => ?_, fun hf => ?_⟩
  · have hn1 : n1 ≠ 0 := fun h => he (r6.zz (by rw [h, Rat.div_def, Rat.zero_mul]))
    obtain ⟨t1, t2⟩ := g1.T (r5.ne hn1)
    have := smN (a := qa a) (b := qa b) (A := qa α) (B := qa β) (n := qa n1) (m := qa n2) (e := qa e) (f := qa f) (ρ := qa ρ) (s := qa (a + β)) (K := pw 31) (T := pw 54) (D := qa den) (qa_nn _) (qa_nn _) (qa_nn _) (qa_nn _) K1 T0 (qa_pos nd) (qa_nn _)
      (by rw [← qa_mul]; exact r4.b) (by rw [← qa_mul]; exact r7.a) hρ hρ2 (by grind) t1 t2 r5.b e1 f2
    rw [pw87]
    grind
  · have hn2 : n2 ≠ 0 := fun h => hf (r9.zz (by rw [h, Rat.div_def, Rat.zero_mul]))
    obtain ⟨t1, t2⟩ := g2.T (r8.ne hn2)
    rw [qa_neg] at t2
    have := smN (a := qa b) (b := qa a) (A := qa β) (B := qa α) (n := qa n2) (m := qa n1) (e := qa f) (f := qa e) (ρ := qa ρ) (s := qa (b + -α)) (K := pw 31) (T := pw 54) (D := qa den) (qa_nn _) (qa_nn _) (qa_nn _) (qa_nn _) K1 T0 (qa_pos nd) (qa_nn _)
      (by rw [← qa_mul]; exact r7.b) (by rw [← qa_mul]; exact r4.a) hρ hρ2 (by grind) t1 t2 r8.b f1 e2
    rw [pw87]
    grind
theorem Sm.scale {a b c d e f κ : Rat} (h : Sm a b c d e f) (hd : d = 0) (hκ : 0 ≤ κ) (hg : Gc κ a b) : Gc (21 / 20 * κ) e f := by
  obtain ⟨ρ, rd, den, β, n1, α, n2, r1, r2, r3, r4, r5, r6, r7, r8, r9, g1, g2, hle, hc⟩ := h
  have hρ : ρ = 0 := r1.zz (by rw [hd, Rat.div_def, Rat.zero_mul])
  subst hρ
  have hrd : rd = 0 := r2.zz (Rat.zero_mul d)
  have hβ : β = 0 := r4.zz (Rat.mul_zero b)
  have hα : α = 0 := r7.zz (Rat.mul_zero a)
  subst hrd hβ hα
  rw [show c + 0 = c by grind] at r3
  rw [show a + 0 = a by grind] at r5
  rw [show b + -0 = b by grind] at r8
  have nd := r3.nz hc
  have p := qa_pos nd
  -- one over the divisor
  have q6 := qa_div (x := n1) nd
  have q9 := qa_div (x := n2) nd
  have hm : 0 < qa (1 / den) := by
    refine qa_pos fun h => ?_
    have : 1 / den * den = 1 := by grind
    rw [h, Rat.zero_mul] at this
    exact absurd this (by decide)
  have hm2 : qa (1 / den) * qa den = 1 := by
    have := qa_div (x := 1) nd
    rw [this]
    decide
  have d6 : qa (n1 / den) = qa (1 / den) * qa n1 := by
    rw [← qa_mul]; congr 1; rw [Rat.div_def, Rat.div_def]; grind
  have d9 : qa (n2 / den) = qa (1 / den) * qa n2 := by
    rw [← qa_mul]; congr 1; rw [Rat.div_def, Rat.div_def]; grind
  have a6 := r6.a; have b6 := r6.b; have a9 := r9.a; have b9 := r9.b
  rw [d6] at a6 b6
  rw [d9] at a9 b9
  have m5a := Rat.mul_le_mul_of_nonneg_left r5.a (Rat.le_of_lt hm)
  have m5b := Rat.mul_le_mul_of_nonneg_left r5.b (Rat.le_of_lt hm)
  have m8a := Rat.mul_le_mul_of_nonneg_left r8.a (Rat.le_of_lt hm)
  have m8b := Rat.mul_le_mul_of_nonneg_left r8.b (Rat.le_of_lt hm)
  generalize qa (1 / den) = m at *
  refine gc_scale (m := m) hκ hg hm ?_ ?_ ?_ ?_ <;> grind
/-- A quotient, by its steps. -/
theorem quo_Sm {a b c d : Nat} {A B C E : Rat} {k l : Int} (ha : W a A) (hb : W b B) (hc : W c C) (hd : W d E) (mA : Md k A) (mB : Md k B) (mC : Md l C) (mE : Md l E) (h0 : ¬ (C = 0 ∧ E = 0)) (hk0 : 0 ≤ k) (hk : k ≤ 200) (hl0 : 0 ≤ l) (hl : l ≤ 190) :
    ∃ e f p q, cQuoBits a b c d = some (e, f) ∧ W e p ∧ W f q ∧ (Sm A B C E p q ∨ Sm B (-A) E (-C) p q) := by
  have notNaN : ∀ {w : Nat} {x : Rat}, W w x → Op.Complex.isNaN w = false := fun ⟨_, _, _, r, _⟩ => fin_notNaN r
  obtain ⟨s, m, i, rc, hC⟩ := hc
  obtain ⟨t, n, j, rd, hE⟩ := hd
  obtain ⟨o1, o2⟩ := absGe_facts rc rd
  have qC : qa C = mg m i := by rw [← hC]; exact qa_sg s (mg_nn m i)
  have qE : qa E = mg n j := by rw [← hE]; exact qa_sg t (mg_nn n j)
  have hc : W c C := ⟨s, m, i, rc, hC⟩
  have hd : W d E := ⟨t, n, j, rd, hE⟩
  cases hge : absGe c d with
  | true =>
    have hle : qa E ≤ qa C := by rw [qC, qE]; exact o1 hge
    have hC0 : C ≠ 0 := by
      rintro rfl
      rw [qa_zero] at hle
      exact h0 ⟨rfl, qa_eq0 (by have := qa_nn E; grind)⟩
    obtain ⟨ratio, rd, denom, br, n1, e, ar, n2, f, p, q, e1, e2, e3, e4, e5, e6, e7, e8, e9, w1, w2, hs⟩ := sm_steps ha hb hc hd mA mB mC mE hC0 hle hk0 hk hl0 hl
    exact ⟨e, f, p, q, cquo_of hge e1 e2 e3 e4 e5 e6 e7 e8 e9 (notNaN w1), w1, w2, .inl hs⟩
  | false =>
    have hle : qa C ≤ qa E := by rw [qC, qE]; exact o2 hge
    have hE0 : E ≠ 0 := by
      rintro rfl
      rw [qa_zero] at hle
      exact h0 ⟨qa_eq0 (by have := qa_nn C; grind), rfl⟩
    obtain ⟨ratio, rc, denom, ar, n1, e, br, n2, f, p, q, e1, e2, e3, e4, e5, e6, e7, e8, e9, w1, w2, hs⟩ := sm_steps' ha hb hc hd mA mB mC mE hE0 hle hk0 hk hl0 hl
    exact ⟨e, f, p, q, cquo_of' hge e1 e2 e3 e4 e5 e6 e7 e8 e9 (notNaN w1), w1, w2, .inr hs⟩
end Go.Sx

/- Films in 32 bits: every conversion on the way is of a number that is not too great. -/
namespace Go.Sx
open Go Ieee
set_option linter.unusedVariables false
set_option linter.unusedSimpArgs false

def up32 (w : Nat) : Nat := (floatToFloatBits .f32 w .f64).getD 0
def dn32 (w : Nat) : Nat := (floatToFloatBits .f64 w .f32).getD 0
def upC (z : CF) : CF := (up32 z.1, up32 z.2)
def dnC (z : CF) : CF := (dn32 z.1, dn32 z.2)
theorem V_lo {w : Nat} {x : Rat} (h : V w x) : x = 0 ∨ pw (-149) ≤ qa x := by
  obtain ⟨s, m, e, r, rfl⟩ := h
  obtain ⟨_, b⟩ := s_small r
  by_cases hm : m = 0
  · left; rw [hm, mg_zero, sg_zero]
  · right
    rw [qa_sg s (mg_nn m e)]
    exact Rat.le_trans (pw_le (by omega)) (mg_log hm e).1
theorem V_md {w : Nat} {x : Rat} {k : Int} (h : V w x) (hk : qa x ≤ pw k) : Md k x := (V_lo h).imp id fun a => ⟨Rat.le_trans (pw_le (by omega)) a, hk⟩
theorem upC_of {z : CF} {x y : Rat} (hx : V z.1 x) (hy : V z.2 y) (bx : qa x ≤ pw 200) (by' : qa y ≤ pw 200) : cConvBits .f32 z.1 z.2 .f64 = some (upC z) ∧ W (upC z).1 x ∧ W (upC z).2 y := by
  obtain ⟨u, e1, w1⟩ := up_V hx bx
  obtain ⟨v, e2, w2⟩ := up_V hy by'
  unfold upC up32 cConvBits
  rw [e1, e2]
  exact ⟨rfl, w1, w2⟩
theorem dnC_of {z : CF} {p q : Rat} (hp : W z.1 p) (hq : W z.2 q) (bp : qa p ≤ pw 126) (bq : qa q ≤ pw 126) : cConvBits .f64 z.1 z.2 .f32 = some (dnC z) ∧ ∃ p' q', V (dnC z).1 p' ∧ V (dnC z).2 q' ∧ Rd p' p ∧ Rd q' q := by
  obtain ⟨u, p', e1, w1, r1⟩ := dn_W hp bp
  obtain ⟨v, q', e2, w2, r2⟩ := dn_W hq bq
  unfold dnC dn32 cConvBits
  rw [e1, e2]
  exact ⟨rfl, p', q', w1, w2, r1, r2⟩
def sMul (x y : CF) : CF := dnC (wMul (upC x) (upC y))
def sQuo (x y : CF) : CF := dnC (wQuo (upC x) (upC y))
/-- How much the parts may differ after j operations. -/
def cj : Nat → Rat
  | 0 => pw 87
  | j + 1 => 9 / 4 * cj j
theorem cj_ge : ∀ j, pw 87 ≤ cj j
  | 0 => Rat.le_refl
  | j + 1 => by
    have := cj_ge j
    have := pw_pos 87
    show pw 87 ≤ 9 / 4 * cj j
    grind
theorem cj_mono : ∀ {i j : Nat}, i ≤ j → cj i ≤ cj j
  | i, 0, h => by obtain rfl : i = 0 := by omega
                  exact Rat.le_refl
  | i, j + 1, h => by
    by_cases h' : i ≤ j
    · have := cj_mono h'
      have := cj_ge j
      have := pw_pos 87
      show cj i ≤ 9 / 4 * cj j
      grind
    · obtain rfl : i = j + 1 := by omega
      exact Rat.le_refl
theorem cj7 : cj 7 ≤ pw 96 := by
  have e : pw 96 = 512 * pw 87 := by rw [show (96 : Int) = 9 + 87 from rfl, pw_add]; rfl
  have := pw_pos 87
  rw [e]
  simp only [cj]
  grind
/-- A number on the way: not too great, its parts not too different. -/
def Sw (k : Int) (j : Nat) (z : CF) : Prop := ∃ x y, V z.1 x ∧ V z.2 y ∧ qa x ≤ pw k ∧ qa y ≤ pw k ∧ Gc (cj j) x y
theorem Sw.mono {k l : Int} {i j : Nat} {z : CF} (h : Sw k i z) (hl : k ≤ l) (hj : i ≤ j) : Sw l j z := by
  obtain ⟨x, y, h1, h2, h3, h4, h5⟩ := h
  exact ⟨x, y, h1, h2, Rat.le_trans h3 (pw_le hl), Rat.le_trans h4 (pw_le hl), h5.mono (cj_mono hj)⟩
/-- What is multiplied by. -/
def In (l : Int) (n : CF) : Prop := ∃ v w, V n.1 v ∧ V n.2 w ∧ qa v ≤ pw l ∧ qa w ≤ pw l ∧ Gc (pw 31) v w ∧ ¬ (v = 0 ∧ w = 0)
theorem gc_rd {c p q p' q' : Rat} (hc : pw 25 ≤ c) (h : Gc c p q) (rp : Rd p' p) (rq : Rd q' q) : Gc (17 / 8 * c) p' q' := by
  have c0 : 0 ≤ c := Rat.le_trans (Rat.le_of_lt (pw_pos 25)) hc
  have key : ∀ {p q p' q' : Rat}, (p ≠ 0 → qa q ≤ c * qa p) → Rd p' p → Rd q' q → p' ≠ 0 → qa q' ≤ 17 / 8 * c * qa p' := by
    intro p q p' q' h rp rq hp'
    have hp : p ≠ 0 := by
      rintro rfl
      exact hp' rp.zero
    have h1 := h hp
    have h2 := Rat.mul_le_mul_of_nonneg_left (rp.half hp') c0
    have r1 : c * (2 * qa p') = 2 * (c * qa p') := by grind
    rw [r1] at h2
    have r2 : 17 / 8 * c * qa p' = 17 / 8 * (c * qa p') := by grind
    rw [r2]
    have z0 := Rat.mul_nonneg c0 (qa_nn p')
    rcases rq.near with hn | hn
    · have t := qa_tri q' q
      have p24 : pw (-24) ≤ 1 / 1000 := by decide +kernel
      have := Rat.mul_le_mul_of_nonneg_right p24 (qa_nn q)
      grind
    · have h3 := rq.two
      have h4 := Rat.mul_le_mul_of_nonneg_left (rp.least hp') c0
      have h5 := Rat.mul_le_mul_of_nonneg_right hc (Rat.le_of_lt (pw_pos (-149)))
      rw [← pw_add, show (25 : Int) + -149 = -126 + 1 + 1 from rfl, pw_succ, pw_succ] at h5
      grind
  exact ⟨fun hp => key h.1 rp rq hp, fun hq => key h.2 rq rp hq⟩
theorem Mu.swap {x y v w p q : Rat} (h : Mu x y v w p q) : Mu v w x y p q := by
  obtain ⟨A, B, C, E, rA, rB, rp, rC, rE, rq, g1, g2⟩ := h
  refine ⟨A, B, E, C, ?_, ?_, rp, ?_, ?_, ?_, g1, ?_⟩
  · rw [Rat.mul_comm]; exact rA
  · rw [Rat.mul_comm]; exact rB
  · rw [Rat.mul_comm]; exact rE
  · rw [Rat.mul_comm]; exact rC
  · rw [Rat.add_comm]; exact rq
  · intro h
    have := g2 (by rw [Rat.add_comm]; exact h)
    rw [Rat.add_comm]
    exact ⟨this.2, this.1⟩
theorem p3_le {X : Rat} {k : Int} (h : X ≤ 3 * pw k) : X ≤ pw (k + 2) := by
  have e : pw (k + 2) = 4 * pw k := by rw [Int.add_comm, pw_add]; rfl
  have := pw_pos k
  grind
/-- A product in 32 bits. -/
theorem sMul_ok {l k : Int} {j : Nat} {n z : CF} (hn : In l n) (hz : Sw k j z) (h1 : l + k ≤ 124) (h2 : l ≤ 190) (h3 : k ≤ 190) (h4 : -190 ≤ l + k) :
    cConvBits .f32 n.1 n.2 .f64 = some (upC n) ∧ cConvBits .f32 z.1 z.2 .f64 = some (upC z) ∧ cMulBits (upC n).1 (upC n).2 (upC z).1 (upC z).2 = some (wMul (upC n) (upC z)) ∧
      cConvBits .f64 (wMul (upC n) (upC z)).1 (wMul (upC n) (upC z)).2 .f32 = some (sMul n z) ∧ Sw (l + k + 3) (j + 1) (sMul n z) := by
  obtain ⟨v, w, v1, v2, b1, b2, gn, nz⟩ := hn
  obtain ⟨x, y, x1, x2, b3, b4, gz⟩ := hz
  obtain ⟨e1, w1, w2⟩ := upC_of v1 v2 (Rat.le_trans b1 (pw_le (by omega))) (Rat.le_trans b2 (pw_le (by omega)))
  obtain ⟨e2, w3, w4⟩ := upC_of x1 x2 (Rat.le_trans b3 (pw_le (by omega))) (Rat.le_trans b4 (pw_le (by omega)))
  obtain ⟨re, im, p, q, e3, hp, hq, hm⟩ := mul_Mu w1 w2 w3 w4 (V_md v1 b1) (V_md v2 b2) (V_md x1 b3) (V_md x2 b4) (by omega)
  have e3' : wMul (upC n) (upC z) = (re, im) := wMul_of e3
  obtain ⟨d1, d2⟩ := hm.bd b1 b2 b3 b4
  rw [← pw_add] at d1 d2
  obtain ⟨e4, p', q', V1, V2, r1, r2⟩ := dnC_of (z := (re, im)) hp hq (Rat.le_trans (p3_le d1) (pw_le (by omega))) (Rat.le_trans (p3_le d2) (pw_le (by omega)))
  have hs : sMul n z = dnC (re, im) := by unfold sMul; rw [e3']
  have g : Gc (cj (j + 1)) p' q' := by
    have c0 : 0 ≤ cj j := Rat.le_trans (Rat.le_of_lt (pw_pos 87)) (cj_ge j)
    have key : Gc (21 / 20 * cj j) p q := by
      by_cases hvw : v = 0 ∨ w = 0
      · exact hm.swap.scale hvw nz c0 gz
      · have hv : v ≠ 0 := fun h => hvw (.inl h)
        have hw : w ≠ 0 := fun h => hvw (.inr h)
        refine (hm.swap.mix (gn.1 hv) (gn.2 hw)).mono ?_
        have := cj_ge j
        grind
    have c25 : pw 25 ≤ 21 / 20 * cj j := by
      have := cj_ge j
      have : pw 25 ≤ pw 87 := pw_le (by omega)
      grind
    refine (gc_rd c25 key r1 r2).mono ?_
    show 17 / 8 * (21 / 20 * cj j) ≤ 9 / 4 * cj j
    grind
  refine ⟨e1, e2, by rw [e3, e3'], by rw [e3', hs]; exact e4, p', q', by rw [hs]; exact V1, by rw [hs]; exact V2, ?_, ?_, g⟩
  · have := r1.two
    rw [show l + k + 3 = l + k + 2 + 1 by omega, pw_succ]
    have := p3_le d1
    grind
  · have := r2.two
    rw [show l + k + 3 = l + k + 2 + 1 by omega, pw_succ]
    have := p3_le d2
    grind
/-- What is divided by. -/
def Dn (l : Int) (n : CF) : Prop := ∃ v w, V n.1 v ∧ V n.2 w ∧ qa v ≤ pw l ∧ qa w ≤ pw l ∧ Gc (pw 31) v w ∧ (pw (-4) ≤ qa v ∨ pw (-4) ≤ qa w)
theorem Dn.inn {l : Int} {n : CF} (h : Dn l n) : In l n := by
  obtain ⟨v, w, h1, h2, h3, h4, h5, h6⟩ := h
  refine ⟨v, w, h1, h2, h3, h4, h5, ?_⟩
  rintro ⟨rfl, rfl⟩
  rw [qa_zero] at h6
  have := pw_pos (-4)
  rcases h6 with h | h <;> grind
/-- A quotient's size. -/
theorem sm_size {a b c d e f : Rat} {k q : Int} (h : Sm a b c d e f) (ha : qa a ≤ pw k) (hb : qa b ≤ pw k) (hc : pw q ≤ qa c) : qa e ≤ pw (k - q + 2) ∧ qa f ≤ pw (k - q + 2) := by
  obtain ⟨h1, h2⟩ := h.bd ha hb
  have key : ∀ {r : Rat}, qa r * qa c ≤ 3 * pw k → qa r ≤ pw (k - q + 2) := by
    intro r hr
    refine Rat.le_of_mul_le_mul_right ?_ (pw_pos q)
    rw [← pw_add, show k - q + 2 + q = k + 2 by omega]
    have := Rat.mul_le_mul_of_nonneg_left hc (qa_nn r)
    exact p3_le (by grind)
  exact ⟨key h1, key h2⟩
/-- A quotient in 32 bits. -/
theorem sQuo_ok {l k : Int} {j : Nat} {n z : CF} (hn : Dn l n) (hz : Sw k j z) (hl0 : 0 ≤ l) (hl : l ≤ 190) (hk0 : 0 ≤ k) (hk : k ≤ 120) :
    cConvBits .f32 n.1 n.2 .f64 = some (upC n) ∧ cConvBits .f32 z.1 z.2 .f64 = some (upC z) ∧ cQuoBits (upC z).1 (upC z).2 (upC n).1 (upC n).2 = some (wQuo (upC z) (upC n)) ∧
      cConvBits .f64 (wQuo (upC z) (upC n)).1 (wQuo (upC z) (upC n)).2 .f32 = some (sQuo z n) ∧ Sw (k + 7) (j + 1) (sQuo z n) := by
  have nz : In l n := hn.inn
  obtain ⟨v, w, v1, v2, b1, b2, gn, lo⟩ := hn
  obtain ⟨x, y, x1, x2, b3, b4, gz⟩ := hz
  obtain ⟨e1, w1, w2⟩ := upC_of v1 v2 (Rat.le_trans b1 (pw_le (by omega))) (Rat.le_trans b2 (pw_le (by omega)))
  obtain ⟨e2, w3, w4⟩ := upC_of x1 x2 (Rat.le_trans b3 (pw_le (by omega))) (Rat.le_trans b4 (pw_le (by omega)))
  have hne : ¬ (v = 0 ∧ w = 0) := by
    rintro ⟨rfl, rfl⟩
    rw [qa_zero] at lo
    have := pw_pos (-4)
    rcases lo with h | h <;> grind
  obtain ⟨re, im, p, q, e3, hp, hq, hm⟩ := quo_Sm w3 w4 w1 w2 (V_md x1 b3) (V_md x2 b4) (V_md v1 b1) (V_md v2 b2) hne hk0 (by omega) hl0 hl
  have e3' : wQuo (upC z) (upC n) = (re, im) := wQuo_of e3
  have c0 : 0 ≤ cj j := Rat.le_trans (Rat.le_of_lt (pw_pos 87)) (cj_ge j)
  have gs : Gc (21 / 20 * cj j) p q ∧ qa p ≤ pw (k + 6) ∧ qa q ≤ pw (k + 6) := by
    rcases hm with hm | hm
    · have hle : qa w ≤ qa v := by obtain ⟨_, _, _, _, _, _, _, _, _, _, _, _, _, _, _, _, _, _, h, _⟩ := hm; exact h
      have lv : pw (-4) ≤ qa v := by rcases lo with h | h <;> grind
      obtain ⟨s1, s2⟩ := sm_size hm b3 b4 lv
      refine ⟨?_, by rw [show k + 6 = k - -4 + 2 by omega]; exact s1, by rw [show k + 6 = k - -4 + 2 by omega]; exact s2⟩
      by_cases hw : w = 0
      · exact hm.scale hw c0 gz
      · refine (hm.mix (gn.2 hw)).mono ?_
        have := cj_ge j
        have := pw_pos 87
        grind
    · have hle : qa (-v) ≤ qa w := by obtain ⟨_, _, _, _, _, _, _, _, _, _, _, _, _, _, _, _, _, _, h, _⟩ := hm; exact h
      rw [qa_neg] at hle
      have lv : pw (-4) ≤ qa w := by rcases lo with h | h <;> grind
      obtain ⟨s1, s2⟩ := sm_size hm b4 (by rw [qa_neg]; exact b3) lv
      refine ⟨?_, by rw [show k + 6 = k - -4 + 2 by omega]; exact s1, by rw [show k + 6 = k - -4 + 2 by omega]; exact s2⟩
      by_cases hv : v = 0
      · exact hm.scale (by rw [hv]; grind) c0 gz.symm.neg
      · refine (hm.mix (by rw [qa_neg]; exact gn.1 hv)).mono ?_
        have := cj_ge j
        have := pw_pos 87
        grind
  obtain ⟨key, d1, d2⟩ := gs
  obtain ⟨e4, p', q', V1, V2, r1, r2⟩ := dnC_of (z := (re, im)) hp hq (Rat.le_trans d1 (pw_le (by omega))) (Rat.le_trans d2 (pw_le (by omega)))
  have hs : sQuo z n = dnC (re, im) := by unfold sQuo; rw [e3']
  have g : Gc (cj (j + 1)) p' q' := by
    have c25 : pw 25 ≤ 21 / 20 * cj j := by
      have := cj_ge j
      have : pw 25 ≤ pw 87 := pw_le (by omega)
      grind
    refine (gc_rd c25 key r1 r2).mono ?_
    show 17 / 8 * (21 / 20 * cj j) ≤ 9 / 4 * cj j
    grind
  refine ⟨e1, e2, by rw [e3, e3'], by rw [e3', hs]; exact e4, p', q', by rw [hs]; exact V1, by rw [hs]; exact V2, ?_, ?_, g⟩
  · have := r1.two
    rw [show k + 7 = k + 6 + 1 by omega, pw_succ]
    grind
  · have := r2.two
    rw [show k + 7 = k + 6 + 1 by omega, pw_succ]
    grind
end Go.Sx

/- Films in 32 bits: the run, and what is divided last. -/
namespace Go.Sx
open Go Ieee
set_option linter.unusedVariables false
set_option linter.unusedSimpArgs false

def iS : CF := (0, 1065353216)
def oneS : CF := (1065353216, 0)
def ngS (z : CF) : CF := (Op.negFloat .f32 z.1, Op.negFloat .f32 z.2)
theorem zero_V : V 0 0 := ⟨false, 0, -149, s_readS false (by decide), by rw [mg_zero, sg_zero]⟩
theorem one_V : V 1065353216 1 := ⟨false, 8388608, -23, by decide +kernel, by decide +kernel⟩
theorem iS_in : In 0 iS := by
  refine ⟨0, 1, zero_V, one_V, ?_, ?_, ⟨fun h => absurd rfl h, fun _ => ?_⟩, fun h => absurd h.2 (by decide)⟩
  · rw [qa_zero]; exact Rat.le_of_lt (pw_pos 0)
  · decide +kernel
  · rw [qa_zero]; decide +kernel
theorem oneS_sw : Sw 0 0 oneS := by
  refine ⟨1, 0, one_V, zero_V, ?_, ?_, ⟨fun _ => ?_, fun h => absurd rfl h⟩⟩
  · decide +kernel
  · rw [qa_zero]; exact Rat.le_of_lt (pw_pos 0)
  · rw [qa_zero]; decide +kernel
theorem ngS_sw {k : Int} {j : Nat} {z : CF} (h : Sw k j z) : Sw k j (ngS z) := by
  obtain ⟨x, y, h1, h2, h3, h4, h5⟩ := h
  refine ⟨-x, -y, V_neg h1, V_neg h2, by rw [qa_neg]; exact h3, by rw [qa_neg]; exact h4, fun h => ?_, fun h => ?_⟩
  · rw [qa_neg, qa_neg]; exact h5.1 fun e => h (by rw [e]; grind)
  · rw [qa_neg, qa_neg]; exact h5.2 fun e => h (by rw [e]; grind)
/-- One layer. -/
def sStep (n : CF) (qt : Int) (p q : CF) : CF × CF :=
  let p1 := if qt % 2 = 1 then sQuo (sMul iS q) n else p
  let q1 := if qt % 2 = 1 then sMul (sMul iS n) p else q
  if 2 ≤ qt then (ngS p1, ngS q1) else (p1, q1)
def sRun (n : Nat → CF) (qt : Nat → Int) (b : CF) : Nat → CF × CF
  | 0 => (oneS, b)
  | k + 1 => sStep (n k) (qt k) (sRun n qt b k).1 (sRun n qt b k).2
/-- An index. -/
def Ix (n : CF) : Prop := Dn 29 n ∧ In 32 (sMul iS n)
theorem In.sw {l : Int} {n : CF} (h : In l n) : Sw l 0 n := by
  obtain ⟨v, w, h1, h2, h3, h4, h5, _⟩ := h
  exact ⟨v, w, h1, h2, h3, h4, h5.mono (pw_le (by omega))⟩
/-- What the steps of an odd layer give. -/
def OddS (n p q : CF) : Prop :=
  (cConvBits .f32 iS.1 iS.2 .f64 = some (upC iS) ∧ cConvBits .f32 q.1 q.2 .f64 = some (upC q) ∧ cMulBits (upC iS).1 (upC iS).2 (upC q).1 (upC q).2 = some (wMul (upC iS) (upC q)) ∧ cConvBits .f64 (wMul (upC iS) (upC q)).1 (wMul (upC iS) (upC q)).2 .f32 = some (sMul iS q)) ∧
  (cConvBits .f32 n.1 n.2 .f64 = some (upC n) ∧ cConvBits .f32 (sMul iS q).1 (sMul iS q).2 .f64 = some (upC (sMul iS q)) ∧ cQuoBits (upC (sMul iS q)).1 (upC (sMul iS q)).2 (upC n).1 (upC n).2 = some (wQuo (upC (sMul iS q)) (upC n)) ∧ cConvBits .f64 (wQuo (upC (sMul iS q)) (upC n)).1 (wQuo (upC (sMul iS q)) (upC n)).2 .f32 = some (sQuo (sMul iS q) n)) ∧
  (cMulBits (upC iS).1 (upC iS).2 (upC n).1 (upC n).2 = some (wMul (upC iS) (upC n)) ∧ cConvBits .f64 (wMul (upC iS) (upC n)).1 (wMul (upC iS) (upC n)).2 .f32 = some (sMul iS n)) ∧
  (cConvBits .f32 (sMul iS n).1 (sMul iS n).2 .f64 = some (upC (sMul iS n)) ∧ cConvBits .f32 p.1 p.2 .f64 = some (upC p) ∧ cMulBits (upC (sMul iS n)).1 (upC (sMul iS n)).2 (upC p).1 (upC p).2 = some (wMul (upC (sMul iS n)) (upC p)) ∧ cConvBits .f64 (wMul (upC (sMul iS n)) (upC p)).1 (wMul (upC (sMul iS n)) (upC p)).2 .f32 = some (sMul (sMul iS n) p))
theorem oddS_ok {n p q : CF} {kp kq : Int} {i j : Nat} (hn : Ix n) (hp : Sw kp i p) (hq : Sw kq j q) (h1 : 0 ≤ kp) (h2 : kp ≤ 92) (h3 : 0 ≤ kq) (h4 : kq ≤ 117) :
    OddS n p q ∧ Sw (kq + 10) (j + 2) (sQuo (sMul iS q) n) ∧ Sw (kp + 35) (i + 1) (sMul (sMul iS n) p) := by
  obtain ⟨a1, a2, a3, a4, a5⟩ := sMul_ok iS_in hq (by omega) (by omega) (by omega) (by omega)
  obtain ⟨b1, b2, b3, b4, b5⟩ := sQuo_ok hn.1 a5 (by omega) (by omega) (by omega) (by omega)
  obtain ⟨c1, c2, c3, c4, _⟩ := sMul_ok iS_in hn.1.inn.sw (by omega) (by omega) (by omega) (by omega)
  obtain ⟨d1, d2, d3, d4, d5⟩ := sMul_ok hn.2 hp (by omega) (by omega) (by omega) (by omega)
  exact ⟨⟨⟨a1, a2, a3, a4⟩, ⟨b1, b2, b3, b4⟩, ⟨c3, c4⟩, ⟨d1, d2, d3, d4⟩⟩, b5.mono (by omega) (by omega), d5.mono (by omega) (by omega)⟩
theorem sStep_sw {n p q : CF} {kp kq kp' kq' : Int} {i j i' j' : Nat} {qt : Int} (hn : Ix n) (hp : Sw kp i p) (hq : Sw kq j q) (h1 : 0 ≤ kp) (h2 : kp ≤ 92) (h3 : 0 ≤ kq) (h4 : kq ≤ 117) (e1 : kp ≤ kp') (e2 : kq + 10 ≤ kp') (e3 : kq ≤ kq') (e4 : kp + 35 ≤ kq')
    (f1 : i ≤ i') (f2 : j + 2 ≤ i') (f3 : j ≤ j') (f4 : i + 1 ≤ j') : Sw kp' i' (sStep n qt p q).1 ∧ Sw kq' j' (sStep n qt p q).2 := by
  obtain ⟨_, b1, b2⟩ := oddS_ok hn hp hq h1 h2 h3 h4
  have g1 : Sw kp' i' (if qt % 2 = 1 then sQuo (sMul iS q) n else p) := by
    split
    · exact b1.mono e2 f2
    · exact hp.mono e1 f1
  have g2 : Sw kq' j' (if qt % 2 = 1 then sMul (sMul iS n) p else q) := by
    split
    · exact b2.mono e4 f4
    · exact hq.mono e3 f3
  unfold sStep
  dsimp only
  split
  · exact ⟨ngS_sw g1, ngS_sw g2⟩
  · exact ⟨g1, g2⟩
def kpS : Nat → Int | 0 => 0 | 1 => 39 | 2 => 45 | 3 => 84 | _ => 90
def kqS : Nat → Int | 0 => 29 | 1 => 35 | 2 => 74 | 3 => 80 | _ => 119
def jpS : Nat → Nat | 0 => 0 | 1 => 2 | 2 => 3 | 3 => 5 | _ => 6
def jqS : Nat → Nat | 0 => 0 | 1 => 1 | 2 => 3 | 3 => 4 | _ => 6
theorem sRun_sw {n : Nat → CF} {qt : Nat → Int} {b : CF} {L : Nat} (hL : L ≤ 4) (hn : ∀ k, k < L → Ix (n k)) (hb : Sw 29 0 b) : ∀ k, k ≤ L → Sw (kpS k) (jpS k) (sRun n qt b k).1 ∧ Sw (kqS k) (jqS k) (sRun n qt b k).2
  | 0, _ => ⟨oneS_sw, hb⟩
  | k + 1, h => by
    obtain ⟨h1, h2⟩ := sRun_sw (qt := qt) hL hn hb k (by omega)
    have hx := hn k (by omega)
    rcases (by omega : k = 0 ∨ k = 1 ∨ k = 2 ∨ k = 3) with rfl | rfl | rfl | rfl
    · exact sStep_sw hx h1 h2 (by decide) (by decide) (by decide) (by decide) (by decide) (by decide) (by decide) (by decide) (by decide) (by decide) (by decide) (by decide)
    · exact sStep_sw hx h1 h2 (by decide) (by decide) (by decide) (by decide) (by decide) (by decide) (by decide) (by decide) (by decide) (by decide) (by decide) (by decide)
    · exact sStep_sw hx h1 h2 (by decide) (by decide) (by decide) (by decide) (by decide) (by decide) (by decide) (by decide) (by decide) (by decide) (by decide) (by decide)
    · exact sStep_sw hx h1 h2 (by decide) (by decide) (by decide) (by decide) (by decide) (by decide) (by decide) (by decide) (by decide) (by decide) (by decide) (by decide)
theorem sRun_bd {n : Nat → CF} {qt : Nat → Int} {b : CF} {L : Nat} (hL : L ≤ 4) (hn : ∀ k, k < L → Ix (n k)) (hb : Sw 29 0 b) (k : Nat) (hk : k ≤ L) : Sw 90 6 (sRun n qt b k).1 ∧ Sw 119 6 (sRun n qt b k).2 := by
  obtain ⟨h1, h2⟩ := sRun_sw (qt := qt) hL hn hb k hk
  have a1 : kpS k ≤ 90 ∧ kqS k ≤ 119 ∧ jpS k ≤ 6 ∧ jqS k ≤ 6 := by
    rcases (by omega : k = 0 ∨ k = 1 ∨ k = 2 ∨ k = 3 ∨ k = 4) with rfl | rfl | rfl | rfl | rfl <;> decide
  exact ⟨h1.mono a1.1 a1.2.2.1, h2.mono a1.2.1 a1.2.2.2⟩
theorem sRun_odd {n : Nat → CF} {qt : Nat → Int} {b : CF} {L : Nat} (hL : L ≤ 4) (hn : ∀ k, k < L → Ix (n k)) (hb : Sw 29 0 b) (k : Nat) (hk : k < L) : OddS (n k) (sRun n qt b k).1 (sRun n qt b k).2 := by
  obtain ⟨h1, h2⟩ := sRun_sw (qt := qt) hL hn hb k (by omega)
  have hx := hn k hk
  have a1 : 0 ≤ kpS k ∧ kpS k ≤ 92 ∧ 0 ≤ kqS k ∧ kqS k ≤ 117 := by
    rcases (by omega : k = 0 ∨ k = 1 ∨ k = 2 ∨ k = 3) with rfl | rfl | rfl | rfl <;> decide
  exact (oddS_ok hx h1 h2 a1.1 a1.2.1 a1.2.2.1 a1.2.2.2).1
/-! the ends -/
def sAdd (x y : CF) : CF := ((floatBits .add .f32 x.1 y.1).getD 0, (floatBits .add .f32 x.2 y.2).getD 0)
def sSub (x y : CF) : CF := ((floatBits .sub .f32 x.1 y.1).getD 0, (floatBits .sub .f32 x.2 y.2).getD 0)
theorem cj7' : cj 7 ≤ 300 * pw 87 := by
  have := pw_pos 87
  simp only [cj]
  grind
/-- What a sum is, beside the greatest part. -/
theorem sum_core {u v u' v' : Nat} {X Y X' Y' b b' c : Rat} (hX : V u X) (hY : V v Y) (hX' : V u' X') (hY' : V v' Y') (l1 : qa Y ≤ qa X) (l2 : qa X' ≤ qa X) (l3 : qa Y' ≤ qa X) (g : Gc c X Y) (g' : Gc c X' Y') (hc : 1 ≤ c) (r : Rd b (X + X')) (r' : Rd b' (Y + Y')) (h0 : ¬ (b = 0 ∧ b' = 0)) (hX0 : X ≠ 0) :
    qa X ≤ pw 27 * c * qa b ∨ qa X ≤ pw 27 * c * qa b' := by
  have p27 : pw 27 = 4 * pw 25 := by rw [show (27 : Int) = 2 + 25 from rfl, pw_add]; rfl
  have p25 : 1 ≤ pw 25 := by decide +kernel
  have e25 : pw 25 * pw (-25) = 1 := by rw [← pw_add]; exact pw_zero
  have up : ∀ {s t : Rat}, pw (-25) * qa s ≤ t → qa s ≤ pw 25 * t := fun h => by
    have := Rat.mul_le_mul_of_nonneg_left h (show 0 ≤ pw 25 by grind)
    rw [← Rat.mul_assoc, e25, Rat.one_mul] at this
    exact this
  have cb : ∀ z : Rat, qa z ≤ c * qa z := fun z => by
    have := Rat.mul_le_mul_of_nonneg_right hc (qa_nn z)
    grind
  by_cases hs : X + X' = 0
  · -- the greatest parts cancel
    have hb : b = 0 := by rw [hs] at r; exact r.zero
    have hb' : b' ≠ 0 := fun h => h0 ⟨hb, h⟩
    have hs' : Y + Y' ≠ 0 := fun h => hb' (by rw [h] at r'; exact r'.zero)
    obtain ⟨g1, g2, _⟩ := V_grid hY hY' hs'
    have hX'' : qa X' = qa X := by
      have : X' = -X := by grind
      rw [this, qa_neg]
    have hh := r'.half hb'
    right
    have key : ∀ {z : Rat}, qa X ≤ c * qa z → qa z ≤ pw 25 * qa (Y + Y') → qa X ≤ pw 27 * c * qa b' := fun h1 h2 => by
      have k1 := Rat.mul_le_mul_of_nonneg_left h2 (show 0 ≤ c by grind)
      have k2 := Rat.mul_le_mul_of_nonneg_left hh (Rat.mul_nonneg (show 0 ≤ c by grind) (show 0 ≤ pw 25 by grind))
      have r1 : c * (pw 25 * qa (Y + Y')) = c * pw 25 * qa (Y + Y') := by grind
      rw [r1] at k1
      have r2 : c * pw 25 * (2 * qa b') = 2 * (c * pw 25 * qa b') := by grind
      rw [r2] at k2
      have r3 : pw 27 * c * qa b' = 4 * (c * pw 25 * qa b') := by rw [p27]; grind
      rw [r3]
      have := Rat.mul_nonneg (Rat.mul_nonneg (show 0 ≤ c by grind) (show 0 ≤ pw 25 by grind)) (qa_nn b')
      generalize c * pw 25 * qa b' = q1 at *
      generalize c * pw 25 * qa (Y + Y') = q2 at *
      grind
    by_cases hY0 : Y = 0
    · have hY'0 : Y' ≠ 0 := fun h => hs' (by rw [hY0, h]; grind)
      have := g'.2 hY'0
      rw [hX''] at this
      exact key this (up g2)
    · exact key (g.2 hY0) (up g1)
  · obtain ⟨g1, _, g3⟩ := V_grid hX hX' hs
    left
    have hb := r.nz g3
    have hh := r.half hb
    have k1 := up g1
    have k2 := Rat.mul_le_mul_of_nonneg_left hh (show 0 ≤ pw 25 by grind)
    have k3 := Rat.mul_le_mul_of_nonneg_left (cb b) (show 0 ≤ pw 25 by grind)
    have r3 : pw 27 * c * qa b = 4 * (pw 25 * (c * qa b)) := by rw [p27]; grind
    rw [r3]
    have := Rat.mul_nonneg (show 0 ≤ pw 25 by grind) (qa_nn b)
    grind
theorem sum_any {u v u' v' : Nat} {X Y X' Y' b b' c : Rat} (hX : V u X) (hY : V v Y) (hX' : V u' X') (hY' : V v' Y') (g : Gc c X Y) (g' : Gc c X' Y') (hc : 1 ≤ c) (r : Rd b (X + X')) (r' : Rd b' (Y + Y')) (h0 : ¬ (b = 0 ∧ b' = 0)) :
    ∃ M, 0 < M ∧ qa X ≤ M ∧ qa Y ≤ M ∧ qa X' ≤ M ∧ qa Y' ≤ M ∧ (M ≤ pw 27 * c * qa b ∨ M ≤ pw 27 * c * qa b') := by
  have nz : ∀ {Z : Rat}, qa X ≤ qa Z → qa Y ≤ qa Z → qa X' ≤ qa Z → qa Y' ≤ qa Z → Z ≠ 0 := by
    rintro Z a1 a2 a3 a4 rfl
    rw [qa_zero] at a1 a2 a3 a4
    have b1 := qa_eq0 (by have := qa_nn X; grind : qa X = 0)
    have b2 := qa_eq0 (by have := qa_nn Y; grind : qa Y = 0)
    have b3 := qa_eq0 (by have := qa_nn X'; grind : qa X' = 0)
    have b4 := qa_eq0 (by have := qa_nn Y'; grind : qa Y' = 0)
    subst b1 b2 b3 b4
    rw [show (0 : Rat) + 0 = 0 by grind] at r r'
    exact h0 ⟨r.zero, r'.zero⟩
  have rc : Rd b (X' + X) := by rw [Rat.add_comm]; exact r
  have rc' : Rd b' (Y' + Y) := by rw [Rat.add_comm]; exact r'
  have h0' : ¬ (b' = 0 ∧ b = 0) := fun h => h0 ⟨h.2, h.1⟩
  have fin : ∀ {Z : Rat}, qa X ≤ qa Z → qa Y ≤ qa Z → qa X' ≤ qa Z → qa Y' ≤ qa Z → (Z ≠ 0 → qa Z ≤ pw 27 * c * qa b ∨ qa Z ≤ pw 27 * c * qa b') → ∃ M, 0 < M ∧ qa X ≤ M ∧ qa Y ≤ M ∧ qa X' ≤ M ∧ qa Y' ≤ M ∧ (M ≤ pw 27 * c * qa b ∨ M ≤ pw 27 * c * qa b') := fun a1 a2 a3 a4 h => by
    have hz := nz a1 a2 a3 a4
    exact ⟨_, qa_pos hz, a1, a2, a3, a4, h hz⟩
  rcases Rat.le_total (a := qa X) (b := qa Y) with h1 | h1 <;> rcases Rat.le_total (a := qa X') (b := qa Y') with h2 | h2
  · rcases Rat.le_total (a := qa Y) (b := qa Y') with h3 | h3
    · exact fin (Z := Y') (by grind) h3 h2 Rat.le_refl fun hz => (sum_core hY' hX' hY hX h2 h3 (by grind) g'.symm g.symm hc rc' rc h0' hz).symm
    · exact fin (Z := Y) h1 Rat.le_refl (by grind) h3 fun hz => (sum_core hY hX hY' hX' h1 h3 (by grind) g.symm g'.symm hc r' r h0' hz).symm
  · rcases Rat.le_total (a := qa Y) (b := qa X') with h3 | h3
    · exact fin (Z := X') (by grind) h3 Rat.le_refl h2 fun hz => sum_core hX' hY' hX hY h2 (by grind) h3 g' g hc rc rc' h0 hz
    · exact fin (Z := Y) h1 Rat.le_refl h3 (by grind) fun hz => (sum_core hY hX hY' hX' h1 (by grind) h3 g.symm g'.symm hc r' r h0' hz).symm
  · rcases Rat.le_total (a := qa X) (b := qa Y') with h3 | h3
    · exact fin (Z := Y') h3 (by grind) h2 Rat.le_refl fun hz => (sum_core hY' hX' hY hX h2 (by grind) h3 g'.symm g.symm hc rc' rc h0' hz).symm
    · exact fin (Z := X) Rat.le_refl h1 (by grind) h3 fun hz => sum_core hX hY hX' hY' h1 (by grind) h3 g g' hc r r' h0 hz
  · rcases Rat.le_total (a := qa X) (b := qa X') with h3 | h3
    · exact fin (Z := X') h3 (by grind) Rat.le_refl h2 fun hz => sum_core hX' hY' hX hY h2 h3 (by grind) g' g hc rc rc' h0 hz
    · exact fin (Z := X) Rat.le_refl h1 h3 (by grind) fun hz => sum_core hX hY hX' hY' h1 h3 (by grind) g g' hc r r' h0 hz
theorem s_end {d q : CF} (hd : Sw 122 7 d) (hq : Sw 119 6 q) :
    cSumBits .sub .f32 d.1 d.2 q.1 q.2 = some (sSub d q) ∧ cSumBits .add .f32 d.1 d.2 q.1 q.2 = some (sAdd d q) ∧
    ∃ t1 t2 b1 b2, V (sSub d q).1 t1 ∧ V (sSub d q).2 t2 ∧ V (sAdd d q).1 b1 ∧ V (sAdd d q).2 b2 ∧ qa t1 ≤ pw 126 ∧ qa t2 ≤ pw 126 ∧ qa b1 ≤ pw 126 ∧ qa b2 ≤ pw 126 ∧
      (b1 = 0 ∧ b2 = 0 ∨ ∃ r, cQuoBits (upC (sSub d q)).1 (upC (sSub d q)).2 (upC (sAdd d q)).1 (upC (sAdd d q)).2 = some r ∧ cConvBits .f64 r.1 r.2 .f32 = some (dnC r)) := by
  obtain ⟨x1, y1, v1, v2, s1, s2, g1⟩ := hd
  obtain ⟨x2, y2, v3, v4, s3, s4, g2⟩ := hq
  have s3' := Rat.le_trans s3 (pw_le (show (119 : Int) ≤ 122 by omega))
  have s4' := Rat.le_trans s4 (pw_le (show (119 : Int) ≤ 122 by omega))
  have g2' : Gc (cj 7) x2 y2 := g2.mono (cj_mono (by omega))
  have b126 : ∀ {z : Rat}, qa z ≤ pw (122 + 1) → qa z ≤ pw 126 := fun h => Rat.le_trans h (pw_le (by omega))
  have n3 : qa (-x2) ≤ pw 122 := by rw [qa_neg]; exact s3'
  have n4 : qa (-y2) ≤ pw 122 := by rw [qa_neg]; exact s4'
  obtain ⟨w1, t1, e1, V1, r1⟩ := V_sub v1 v3 (by rw [show x1 - x2 = x1 + -x2 by grind]; exact b126 (add_le s1 n3))
  obtain ⟨w2, t2, e2, V2, r2⟩ := V_sub v2 v4 (by rw [show y1 - y2 = y1 + -y2 by grind]; exact b126 (add_le s2 n4))
  obtain ⟨w3, b1, e3, V3, r3⟩ := V_add v1 v3 (b126 (add_le s1 s3'))
  obtain ⟨w4, b2, e4, V4, r4⟩ := V_add v2 v4 (b126 (add_le s2 s4'))
  have hS : sSub d q = (w1, w2) := by unfold sSub; rw [e1, e2]; rfl
  have hA : sAdd d q = (w3, w4) := by unfold sAdd; rw [e3, e4]; rfl
  have p2 : ∀ {z t : Rat}, Rd z t → qa t ≤ pw (122 + 1) → qa z ≤ pw 124 := fun h ht => by
    have := h.two
    rw [show (124 : Int) = 122 + 1 + 1 from rfl, pw_succ]
    grind
  have u1 := p2 r1 (by rw [show x1 - x2 = x1 + -x2 by grind]; exact add_le s1 n3)
  have u2 := p2 r2 (by rw [show y1 - y2 = y1 + -y2 by grind]; exact add_le s2 n4)
  have u3 := p2 r3 (add_le s1 s3')
  have u4 := p2 r4 (add_le s2 s4')
  have to126 : ∀ {z : Rat}, qa z ≤ pw 124 → qa z ≤ pw 126 := fun h => Rat.le_trans h (pw_le (by omega))
  refine ⟨by unfold cSumBits; rw [e1, e2, hS]; rfl, by unfold cSumBits; rw [e3, e4, hA]; rfl, t1, t2, b1, b2, by rw [hS]; exact V1, by rw [hS]; exact V2, by rw [hA]; exact V3, by rw [hA]; exact V4, to126 u1, to126 u2, to126 u3, to126 u4, ?_⟩
  by_cases h0 : b1 = 0 ∧ b2 = 0
  · exact .inl h0
  · right
    have c1 : (1 : Rat) ≤ cj 7 := by
      have := cj_ge 7
      have : (1 : Rat) ≤ pw 87 := by decide +kernel
      grind
    obtain ⟨M, M0, m1, m2, m3, m4, hM⟩ := sum_any v1 v2 v3 v4 g1 g2' c1 r3 r4 h0
    have to200 : ∀ {z : Rat}, qa z ≤ pw 124 → qa z ≤ pw 200 := fun h => Rat.le_trans h (pw_le (by omega))
    rw [hS, hA]
    obtain ⟨_, k1, k2⟩ := upC_of (z := (w1, w2)) V1 V2 (to200 u1) (to200 u2)
    obtain ⟨_, k3, k4⟩ := upC_of (z := (w3, w4)) V3 V4 (to200 u3) (to200 u4)
    obtain ⟨e, f, p, q, hQ, hp, hq, hs⟩ := quo_Sm k1 k2 k3 k4 (V_md V1 u1) (V_md V2 u2) (V_md V3 u3) (V_md V4 u4) h0 (by omega) (by omega) (by omega) (by omega)
    refine ⟨(e, f), hQ, ?_⟩
    have tb : qa t1 ≤ 4 * M ∧ qa t2 ≤ 4 * M := by
      have a1 := r1.two; have a2 := r2.two
      have a3 := qa_sub x1 x2; have a4 := qa_sub y1 y2
      constructor <;> grind
    have big : ∀ {C : Rat}, qa b1 ≤ qa C → qa b2 ≤ qa C → M ≤ pw 27 * cj 7 * qa C := fun h1 h2 => by
      have z0 : 0 ≤ pw 27 * cj 7 := Rat.mul_nonneg (Rat.le_of_lt (pw_pos 27)) (by grind)
      have := Rat.mul_le_mul_of_nonneg_left h1 z0
      have := Rat.mul_le_mul_of_nonneg_left h2 z0
      rcases hM with h | h <;> grind
    have fin : ∀ {C r : Rat}, C ≠ 0 → M ≤ pw 27 * cj 7 * qa C → qa r * qa C ≤ 3 * (4 * M) → qa r ≤ pw 126 := fun {C r} hC h1 h2 => by
      have h3 : qa r ≤ 12 * (pw 27 * cj 7) := by
        refine Rat.le_of_mul_le_mul_right ?_ (qa_pos hC)
        grind
      have h4 := Rat.mul_le_mul_of_nonneg_left cj7' (Rat.le_of_lt (pw_pos 27))
      have e1 : pw 126 = 4096 * (pw 27 * pw 87) := by rw [← pw_add, show (126 : Int) = 12 + (27 + 87) from rfl, pw_add]; rfl
      have := Rat.mul_pos (pw_pos 27) (pw_pos 87)
      rw [e1]
      have r1 : pw 27 * (300 * pw 87) = 300 * (pw 27 * pw 87) := by grind
      rw [r1] at h4
      grind
    have bounds : qa p ≤ pw 126 ∧ qa q ≤ pw 126 := by
      rcases hs with hs | hs
      · have hle : qa b2 ≤ qa b1 := by obtain ⟨_, _, _, _, _, _, _, _, _, _, _, _, _, _, _, _, _, _, h, _⟩ := hs; exact h
        have hC : b1 ≠ 0 := by obtain ⟨_, _, _, _, _, _, _, _, _, _, _, _, _, _, _, _, _, _, _, h⟩ := hs; exact h
        obtain ⟨z1, z2⟩ := hs.bd tb.1 tb.2
        have hB := big (C := b1) Rat.le_refl hle
        exact ⟨fin hC hB z1, fin hC hB z2⟩
      · have hle : qa (-b1) ≤ qa b2 := by obtain ⟨_, _, _, _, _, _, _, _, _, _, _, _, _, _, _, _, _, _, h, _⟩ := hs; exact h
        have hC : b2 ≠ 0 := by obtain ⟨_, _, _, _, _, _, _, _, _, _, _, _, _, _, _, _, _, _, _, h⟩ := hs; exact h
        rw [qa_neg] at hle
        obtain ⟨z1, z2⟩ := hs.bd tb.2 (by rw [qa_neg]; exact tb.1)
        have hB := big (C := b2) hle Rat.le_refl
        exact ⟨fin hC hB z1, fin hC hB z2⟩
    exact (dnC_of (z := (e, f)) hp hq bounds.1 bounds.2).1
end Go.Sx

/- Steps over complex numbers of 32 bits. -/
namespace Go.Sx
open Go Ieee
set_option linter.unusedVariables false
set_option linter.unusedSimpArgs false

def csv (z : CF) : Value := .complex .f32 z.1 z.2
theorem conv_parts {s t : FloatKind} {x r : CF} (h : cConvBits s x.1 x.2 t = some r) : floatToFloatBits s x.1 t = some r.1 ∧ floatToFloatBits s x.2 t = some r.2 := by
  unfold cConvBits at h
  obtain ⟨a, h1, h⟩ := bind_some h
  obtain ⟨b, h2, h⟩ := bind_some h
  cases h
  exact ⟨h1, h2⟩
theorem may_cc {P : Program} {s t : FloatKind} {x r : CF} {v : Value} (h : cConvBits s x.1 x.2 t = some r) (hv : Pr.may P (.cc s t) [.complex s x.1 x.2] v) : v = .complex t r.1 r.2 := by
  obtain ⟨h1, h2⟩ := conv_parts h
  obtain ⟨w, w', hv⟩ := hv
  have h3 : (Conv.complexToComplex s x.1 x.2 t).run P w = .ok v w' := hv
  have h4 : (Conv.complexToComplex s x.1 x.2 t).run P w = .ok (.complex t r.1 r.2) w := by
    simp [Conv.complexToComplex, run_floatToFloat w h1, run_floatToFloat w h2]
  rw [h4] at h3
  cases h3
  rfl
theorem cc_step {P : Program} {specs : List Spec} {s t : FloatKind} {ex : Ex} {rest : List Evn} {env : List Value} {K : List Value → Prop} {x r : CF} (hx : ev env ex = .complex s x.1 x.2) (h : cConvBits s x.1 x.2 t = some r) (hk : evSat P specs rest (env ++ [.complex t r.1 r.2]) K) : evSat P specs (.prim (.cc s t) [ex] :: rest) env K := by
  intro v hv
  simp only [List.map_cons, List.map_nil, hx] at hv
  rw [may_cc h hv]
  exact hk
theorem may_cmul {P : Program} {a b c d re im : Nat} {v : Value} (h : cMulBits a b c d = some (re, im)) (hv : Pr.may P (.ca .mul .f64) [.complex .f64 a b, .complex .f64 c d] v) : v = .complex .f64 re im := by
  obtain ⟨w, w', hv⟩ := hv
  have h2 : (Op.complexOp .mul .f64 a b c d).run P w = .ok v w' := hv
  have h3 := run_complex_mul (P := P) w 0 a b c d re im h
  have h4 : (Op.complexOp .mul .f64 a b c d).run P w = .ok (.complex .f64 re im) w := h3
  rw [h4] at h2
  cases h2
  rfl
theorem may_csum32 {P : Program} {op : BinOp} (hop : op = .add ∨ op = .sub) {a b c d re im : Nat} {v : Value} (h : cSumBits op .f32 a b c d = some (re, im)) (hv : Pr.may P (.ca op .f32) [.complex .f32 a b, .complex .f32 c d] v) : v = .complex .f32 re im := by
  obtain ⟨w, w', hv⟩ := hv
  have h2 : (Op.complexOp op .f32 a b c d).run P w = .ok v w' := hv
  have h3 := run_complex_sum (P := P) w op hop 0 .f32 a b c d re im h
  have h4 : (Op.complexOp op .f32 a b c d).run P w = .ok (.complex .f32 re im) w := by rcases hop with rfl | rfl <;> exact h3
  rw [h4] at h2
  cases h2
  rfl
theorem ca32_step {P : Program} {specs : List Spec} {op : BinOp} (hop : op = .add ∨ op = .sub) {ex ey : Ex} {rest : List Evn} {env : List Value} {K : List Value → Prop} {x y r : CF} (hx : ev env ex = csv x) (hy : ev env ey = csv y) (h : cSumBits op .f32 x.1 x.2 y.1 y.2 = some r)
    (hk : evSat P specs rest (env ++ [csv r]) K) : evSat P specs (.prim (.ca op .f32) [ex, ey] :: rest) env K := by
  intro v hv
  simp only [List.map_cons, List.map_nil, hx, hy] at hv
  rw [may_csum32 hop (re := r.1) (im := r.2) h hv]
  exact hk
theorem cm_step {P : Program} {specs : List Spec} {ex ey : Ex} {rest : List Evn} {env : List Value} {K : List Value → Prop} {x y r : CF} (hx : ev env ex = cxv x) (hy : ev env ey = cxv y) (h : cMulBits x.1 x.2 y.1 y.2 = some r)
    (hk : evSat P specs rest (env ++ [cxv r]) K) : evSat P specs (.prim (.ca .mul .f64) [ex, ey] :: rest) env K := by
  intro v hv
  simp only [List.map_cons, List.map_nil, hx, hy] at hv
  rw [may_cmul (re := r.1) (im := r.2) h hv]
  exact hk
theorem run_conv {P : Program} {s t : FloatKind} {x r : Nat} (h : floatToFloatBits s x t = some r) (w : World) : (Op.Complex.conv s x t).run P w = .ok r w := by
  unfold Op.Complex.conv
  split
  · rename_i hst
    subst hst
    unfold floatToFloatBits at h
    rw [if_pos rfl] at h
    cases h
    rfl
  · rw [Sem.run_bind, run_floatToFloat w h]
    rfl
/-- A division of numbers of 32 bits, by that of 64. -/
theorem run_quo32 {P : Program} {a b c d a' b' c' d' : Nat} (h1 : floatToFloatBits .f32 a .f64 = some a') (h2 : floatToFloatBits .f32 b .f64 = some b') (h3 : floatToFloatBits .f32 c .f64 = some c') (h4 : floatToFloatBits .f32 d .f64 = some d') (w : World) :
    (Op.complexOp .quo .f32 a b c d).run P w = ((Op.Complex.quotient a' b' c' d').run P w).andThen fun (p : Nat × Nat) w1 => (do pure (.complex .f32 (← Op.Complex.conv .f64 p.1 .f32) (← Op.Complex.conv .f64 p.2 .f32)) : Sem Value).run P w1 := by
  simp only [Op.complexOp, Sem.run_bind, run_conv h1, run_conv h2, run_conv h3, run_conv h4, Result.andThen_ok, Sem.run_pure]
  rw [show (BinOp.quo == BinOp.mul) = false from rfl]
  simp only [Bool.false_eq_true, if_false, Sem.run_bind, Sem.run_pure]
theorem quo_run {P : Program} {a b c d : Nat} {r : CF} (h : cQuoBits a b c d = some r) (w : World) : (Op.Complex.quotient a b c d).run P w = .ok r w := by
  have h3 := (run_complex_quo (P := P) w 0 a b c d r.1 r.2 h).1
  have h4 : (Op.complexOp .quo .f64 a b c d).run P w = .ok (.complex .f64 r.1 r.2) w := h3
  have hc : ∀ x : Nat, Op.Complex.conv .f64 x .f64 = pure x := fun x => by unfold Op.Complex.conv; rw [if_pos rfl]
  simp only [Op.complexOp, hc, Sem.run_bind, Sem.run_pure, Result.andThen_ok] at h4
  rw [show (BinOp.quo == BinOp.mul) = false from rfl] at h4
  simp only [Bool.false_eq_true, if_false] at h4
  rw [Sem.run_bind] at h4
  generalize (Op.Complex.quotient a b c d).run P w = z at h4 ⊢
  cases z with
  | halt hh w' => cases h4
  | ok p w' =>
    have h5 : Result.ok (Value.complex .f64 p.1 p.2) w' = .ok (.complex .f64 r.1 r.2) w := h4
    injection h5 with h6 h7
    injection h6 with _ h8 h9
    obtain ⟨p1, p2⟩ := p
    obtain ⟨r1, r2⟩ := r
    cases h8
    cases h9
    rw [h7]
theorem may_squo {P : Program} {x y r : CF} {v : Value} {r' : CF} (h1 : cConvBits .f32 x.1 x.2 .f64 = some (upC x)) (h2 : cConvBits .f32 y.1 y.2 .f64 = some (upC y)) (h3 : cQuoBits (upC x).1 (upC x).2 (upC y).1 (upC y).2 = some r) (h4 : cConvBits .f64 r.1 r.2 .f32 = some r')
    (hv : Pr.may P (.ca .quo .f32) [csv x, csv y] v) : v = csv r' := by
  obtain ⟨a1, a2⟩ := conv_parts h1
  obtain ⟨b1, b2⟩ := conv_parts h2
  obtain ⟨c1, c2⟩ := conv_parts h4
  obtain ⟨w, w', hv⟩ := hv
  have h5 : (Op.complexOp .quo .f32 x.1 x.2 y.1 y.2).run P w = .ok v w' := hv
  rw [run_quo32 a1 a2 b1 b2, quo_run h3, Result.andThen_ok] at h5
  simp only [Sem.run_bind, run_conv c1, run_conv c2, Result.andThen_ok, Sem.run_pure] at h5
  cases h5
  rfl
/-! contracts -/
def fSingleSpec : Spec := fun ins K => validQ (q3 ins 0) = true ∧ cConvBits .f64 (idxF (q3 ins 0)).1 (idxF (q3 ins 0)).2 .f32 = some (dnC (idxF (q3 ins 0))) ∧ K [csv (dnC (idxF (q3 ins 0))), .bool true]
def sTimesSpec : Spec := fun ins K => ∃ x y : CF, ins = [csv x, csv y] ∧ cConvBits .f32 x.1 x.2 .f64 = some (upC x) ∧ cConvBits .f32 y.1 y.2 .f64 = some (upC y) ∧ cMulBits (upC x).1 (upC x).2 (upC y).1 (upC y).2 = some (wMul (upC x) (upC y)) ∧ cConvBits .f64 (wMul (upC x) (upC y)).1 (wMul (upC x) (upC y)).2 .f32 = some (sMul x y) ∧ K [csv (sMul x y)]
def sOverSpec : Spec := fun ins K => ∃ x y : CF, ins = [csv x, csv y] ∧ ∀ v, (∃ P, Pr.may P (.ca .quo .f32) ins v) → K [v]
theorem sq_use {x y : CF} (h1 : cConvBits .f32 y.1 y.2 .f64 = some (upC y)) (h2 : cConvBits .f32 x.1 x.2 .f64 = some (upC x)) (h3 : cQuoBits (upC x).1 (upC x).2 (upC y).1 (upC y).2 = some (wQuo (upC x) (upC y))) (h4 : cConvBits .f64 (wQuo (upC x) (upC y)).1 (wQuo (upC x) (upC y)).2 .f32 = some (sQuo x y)) {K : List Value → Prop} (hk : K [csv (sQuo x y)]) : sOverSpec [csv x, csv y] K := by
  refine ⟨x, y, rfl, ?_⟩
  rintro v ⟨P, hv⟩
  rw [may_squo h2 h1 h3 h4 hv]
  exact hk
def l8sSpec : Spec := fun ins K => ∃ p q : CF, ins.getD 4 undef = csv p ∧ ins.getD 5 undef = csv q ∧ validQ (q3 ins 0) = true ∧ (0 ≤ i0 ins 3 ∧ i0 ins 3 ≤ 3) ∧ cConvBits .f64 (idxF (q3 ins 0)).1 (idxF (q3 ins 0)).2 .f32 = some (dnC (idxF (q3 ins 0))) ∧ OddS (dnC (idxF (q3 ins 0))) p q ∧ K [csv (sStep (dnC (idxF (q3 ins 0))) (i0 ins 3) p q).1, csv (sStep (dnC (idxF (q3 ins 0))) (i0 ins 3) p q).2]
/-- What may come of it. -/
def SingRes (t b : CF) (v : Value) : Prop := ∃ P : Program, Pr.may P (.ca .quo .f32) [csv t, csv b] v
/-- The same number, or two NaNs. -/
def nan32 (x : Nat) : Prop := ∃ s f, S32.read x = .nan s f
def SameS (x y : Nat) : Prop := x = y ∨ (nan32 x ∧ nan32 y)
end Go.Sx

/- Two answers to a division in 32 bits are the same, or NaNs; so are they widened. -/
namespace Go.Sx
open Go Ieee
set_option linter.unusedVariables false
set_option linter.unusedSimpArgs false

theorem s_top {w : Nat} {s : Bool} {m : Nat} {e : Int} (h : S32.read w = .number s m e) : e ≤ 104 := by
  unfold Format.read at h
  simp only at h
  rw [s_b, s_lp, s_i] at h
  split at h
  · cases h
    omega
  · split at h
    · cases h
      omega
    · split at h <;> cases h
theorem V_top {w : Nat} {x : Rat} (h : V w x) : qa x ≤ pw 128 := by
  obtain ⟨s, m, e, r, rfl⟩ := h
  have h1 := s_top r
  have h2 := (s_small r).1
  rw [qa_sg s (mg_nn m e)]
  have h3 := mg_mono (Nat.le_of_lt h2) e
  rw [show 16777216 = 2 ^ 24 from rfl, mg_pow] at h3
  exact Rat.le_trans h3 (pw_le (by omega))
theorem nan32_cut (b t : Nat) : nan32 (Question.cut (.nanConv .f32 b) t) := by
  show nan32 ((t % 2) * 2 ^ 31 + 0x7f800000 + 1 + (t / 2) % (2 ^ 23 - 1))
  have e1 : (2 : Nat) ^ 31 = 2147483648 := by decide
  have e2 : (2 : Nat) ^ 23 - 1 = 8388607 := by decide
  rw [e1, e2]
  have key : (t % 2 * 2147483648 + 0x7f800000 + 1 + t / 2 % 8388607) % S32.signWeight = 0x7f800000 + 1 + t / 2 % 8388607 := by rw [s_w]; omega
  unfold nan32 Format.read
  simp only [key]
  rw [if_neg (by rw [s_b]; omega), if_neg (by rw [s_i]; omega), if_neg (by rw [s_i]; omega)]
  exact ⟨_, _, rfl⟩
theorem nan64_cut (b t : Nat) : Op.Complex.isNaN (Question.cut (.nanConv .f64 b) t) = true := nan_cut t
/-- A conversion that is known, or of a NaN. -/
theorem conv_nan {P : Program} {x : Nat} (h : Op.Complex.isNaN x = true) (w : World) : ∃ r w', (Op.Complex.conv .f64 x .f32).run P w = .ok r w' ∧ nan32 r := by
  obtain ⟨s, f, hr⟩ := nan_read h
  have hc : ∃ n w', (choose (.nanConv .f32 x)).run P w = .ok n w' ∧ nan32 n := by
    rw [run_choose]
    split
    · rename_i hf
      cases hf
    · exact ⟨_, _, rfl, nan32_cut _ _⟩
  obtain ⟨n, w', h1, h2⟩ := hc
  refine ⟨n, w', ?_, h2⟩
  unfold Op.Complex.conv
  rw [if_neg (by decide), Sem.run_bind]
  have hd : FloatKind.f64.decode x = .nan s f := hr
  have h3 : (Conv.floatToFloat .f64 x .f32).run P w = .ok (.float .f32 n) w' := by
    unfold Conv.floatToFloat
    rw [if_neg (by decide), hd]
    simp only [Sem.run_bind, h1, Result.andThen_ok, Sem.run_pure]
  rw [h3]
  rfl
theorem up_nan {P : Program} {x : Nat} (h : nan32 x) (w : World) : ∃ r w', (Conv.floatToFloat .f32 x .f64).run P w = .ok (.float .f64 r) w' ∧ Op.Complex.isNaN r = true := by
  obtain ⟨s, f, hr⟩ := h
  have hc : ∃ n w', (choose (.nanConv .f64 x)).run P w = .ok n w' ∧ Op.Complex.isNaN n = true := by
    rw [run_choose]
    split
    · rename_i hf
      cases hf
    · exact ⟨_, _, rfl, nan64_cut _ _⟩
  obtain ⟨n, w', h1, h2⟩ := hc
  refine ⟨n, w', ?_, h2⟩
  have hd : FloatKind.f32.decode x = .nan s f := hr
  unfold Conv.floatToFloat
  rw [if_neg (by decide), hd]
  simp only [Sem.run_bind, h1, Result.andThen_ok, Sem.run_pure]
/-- Widened: known, or a NaN. -/
theorem up_any (x : Nat) : nan32 x ∨ ∃ u, floatToFloatBits .f32 x .f64 = some u := by
  cases hr : S32.read x with
  | nan s f => exact .inl ⟨s, f, hr⟩
  | infinity s =>
    right
    have hd : FloatKind.f32.decode x = .infinity s := hr
    unfold floatToFloatBits
    rw [if_neg (by decide), hd]
    exact ⟨_, rfl⟩
  | number s m e =>
    right
    have hV : V x (sg s (mg m e)) := ⟨s, m, e, hr, rfl⟩
    obtain ⟨u, h, _⟩ := up_V hV (Rat.le_trans (V_top hV) (pw_le (by omega)))
    exact ⟨u, h⟩
theorem cc_same {P : Program} {e f e' f' : Nat} (h1 : SameS e e') (h2 : SameS f f') {u u' : Value} (hu : Pr.may P (.cc .f32 .f64) [.complex .f32 e f] u) (hu' : Pr.may P (.cc .f32 .f64) [.complex .f32 e' f'] u') :
    ∃ a b a' b', u = .complex .f64 a b ∧ u' = .complex .f64 a' b' ∧ SameF a a' ∧ SameF b b' := by
  -- what one gives
  have one : ∀ {e f : Nat} {u : Value}, Pr.may P (.cc .f32 .f64) [.complex .f32 e f] u → ∃ a b, u = .complex .f64 a b ∧ ((nan32 e ∧ Op.Complex.isNaN a = true) ∨ floatToFloatBits .f32 e .f64 = some a) ∧ ((nan32 f ∧ Op.Complex.isNaN b = true) ∨ floatToFloatBits .f32 f .f64 = some b) := by
    intro e f u hu
    obtain ⟨w, w', hu⟩ := hu
    have h3 : (Conv.complexToComplex .f32 e f .f64).run P w = .ok u w' := hu
    have part : ∀ (x : Nat) (w : World), ∃ r w', (Conv.floatToFloat .f32 x .f64).run P w = .ok (.float .f64 r) w' ∧ ((nan32 x ∧ Op.Complex.isNaN r = true) ∨ floatToFloatBits .f32 x .f64 = some r) := fun x w => by
      rcases up_any x with h | ⟨r, h⟩
      · obtain ⟨r, w', q1, q2⟩ := up_nan (P := P) h w
        exact ⟨r, w', q1, .inl ⟨h, q2⟩⟩
      · exact ⟨r, w, run_floatToFloat w h, .inr h⟩
    obtain ⟨a, w1, q1, q2⟩ := part e w
    obtain ⟨b, w2, q3, q4⟩ := part f w1
    have h4 : (Conv.complexToComplex .f32 e f .f64).run P w = .ok (.complex .f64 a b) w2 := by
      simp [Conv.complexToComplex, q1, q3]
    rw [h4] at h3
    cases h3
    exact ⟨a, b, rfl, q2, q4⟩
  obtain ⟨a, b, rfl, a1, b1⟩ := one hu
  obtain ⟨a', b', rfl, a2, b2⟩ := one hu'
  have notboth : ∀ {x r : Nat}, nan32 x → floatToFloatBits .f32 x .f64 = some r → False := by
    rintro x r ⟨s, f, hr⟩ h
    have hd : FloatKind.f32.decode x = .nan s f := hr
    unfold floatToFloatBits at h
    rw [if_neg (by decide), hd] at h
    cases h
  have fin : ∀ {x x' r r' : Nat}, SameS x x' → ((nan32 x ∧ Op.Complex.isNaN r = true) ∨ floatToFloatBits .f32 x .f64 = some r) → ((nan32 x' ∧ Op.Complex.isNaN r' = true) ∨ floatToFloatBits .f32 x' .f64 = some r') → SameF r r' := by
    intro x x' r r' hs h h'
    rcases hs with rfl | ⟨n1, n2⟩
    · rcases h with ⟨n, q⟩ | h <;> rcases h' with ⟨n', q'⟩ | h'
      · exact .inr ⟨q, q'⟩
      · exact (notboth n h').elim
      · exact (notboth n' h).elim
      · rw [h] at h'; exact .inl (Option.some.inj h')
    · rcases h with ⟨_, q⟩ | h
      · rcases h' with ⟨_, q'⟩ | h'
        · exact .inr ⟨q, q'⟩
        · exact (notboth n2 h').elim
      · exact (notboth n1 h).elim
  exact ⟨a, b, a', b', rfl, rfl, fin h1 a1 a2, fin h2 b1 b2⟩
/-- What is left of a division by nothing, narrowed. -/
theorem zr_conv {P : Program} {c a x : Nat} {y : Rat} (hc : ∃ s e, D.read c = .number s 0 e) (ha : W a y) (h : ZR c a x) (w : World) : ∃ r w', (Op.Complex.conv .f64 x .f32).run P w = .ok r w' ∧ (floatToFloatBits .f64 x .f32 = some r ∨ (Op.Complex.isNaN x = true ∧ nan32 r)) := by
  rcases h with h | ⟨_, h⟩
  · obtain ⟨s, m, e, hr, _⟩ := ha
    have e1 : floatBits .mul .f64 (Op.Complex.copysign Op.Complex.inf c) a = ((D.read (Op.Complex.copysign Op.Complex.inf c)).product (D.read a)).map D.write := rfl
    have hinf : ∃ t, D.read (Op.Complex.copysign Op.Complex.inf c) = .infinity t := by
      have hx : ∀ k : Nat, D.read (9218868437227405312 + k * 9223372036854775808) = .infinity (k % 2 == 1) := by
        intro k
        have k1 : (9218868437227405312 + k * 9223372036854775808) % D.signWeight = 9218868437227405312 := by rw [d_w]; omega
        have k2 : (9218868437227405312 + k * 9223372036854775808) / D.signWeight = k := by rw [d_w]; omega
        unfold Format.read
        simp only [k1, k2]
        rw [if_neg (by rw [d_b]; omega), if_neg (by rw [d_i]; omega), if_pos (by rw [d_i])]
      refine ⟨(c / 9223372036854775808 % 2 == 1), ?_⟩
      have e2 : Op.Complex.copysign Op.Complex.inf c = 9218868437227405312 + c / 9223372036854775808 * 9223372036854775808 := rfl
      rw [e2]
      exact hx _
    obtain ⟨t, hinf⟩ := hinf
    rw [e1, hinf, hr] at h
    by_cases hm : m = 0
    · subst hm
      cases h
    · have h : (some (D.write (.infinity (t ^^ s))) : Option Nat) = some x := by
        have e3 : (Datum.infinity t).product (.number s m e) = some (.infinity (t ^^ s)) := by
          show (if m = 0 then none else some (Datum.infinity (t ^^ s))) = _
          rw [if_neg hm]
        rw [e3] at h
        exact h
      have h := Option.some.inj h
      have hx : FloatKind.f64.decode x = .infinity (t ^^ s) := by
        rw [← h]
        show D.read (D.write (.infinity (t ^^ s))) = _
        cases (t ^^ s) <;> decide +kernel
      have hb : floatToFloatBits .f64 x .f32 = some (S32.write (.infinity (t ^^ s))) := by
        unfold floatToFloatBits
        rw [if_neg (by decide), hx]
        rfl
      exact ⟨_, w, run_conv hb w, .inl hb⟩
  · obtain ⟨r, w', h1, h2⟩ := conv_nan (P := P) h w
    exact ⟨r, w', h1, .inr ⟨h, h2⟩⟩
theorem conv_sameS {x x' r r' : Nat} (hs : SameF x x') (h : floatToFloatBits .f64 x .f32 = some r ∨ (Op.Complex.isNaN x = true ∧ nan32 r)) (h' : floatToFloatBits .f64 x' .f32 = some r' ∨ (Op.Complex.isNaN x' = true ∧ nan32 r')) : SameS r r' := by
  have notboth : ∀ {x r : Nat}, Op.Complex.isNaN x = true → floatToFloatBits .f64 x .f32 = some r → False := by
    intro x r hn h
    obtain ⟨s, f, hr⟩ := nan_read hn
    have hd : FloatKind.f64.decode x = .nan s f := hr
    unfold floatToFloatBits at h
    rw [if_neg (by decide), hd] at h
    cases h
  rcases hs with rfl | ⟨n1, n2⟩
  · rcases h with h | ⟨n, q⟩ <;> rcases h' with h' | ⟨n', q'⟩
    · rw [h] at h'; exact .inl (Option.some.inj h')
    · exact (notboth n' h).elim
    · exact (notboth n h').elim
    · exact .inr ⟨q, q'⟩
  · rcases h with h | ⟨n, q⟩
    · exact (notboth n1 h).elim
    · rcases h' with h' | ⟨n', q'⟩
      · exact (notboth n2 h').elim
      · exact .inr ⟨q, q'⟩
/-- **Two answers are the same, or NaNs.** -/
theorem sing_same {d q : CF} (hd : Sw 122 7 d) (hq : Sw 119 6 q) {v v' : Value} (h : SingRes (sSub d q) (sAdd d q) v) (h' : SingRes (sSub d q) (sAdd d q) v') : ∃ e f e' f', v = .complex .f32 e f ∧ v' = .complex .f32 e' f' ∧ SameS e e' ∧ SameS f f' := by
  obtain ⟨_, _, t1, t2, b1, b2, V1, V2, V3, V4, u1, u2, u3, u4, hend⟩ := s_end hd hq
  have to200 : ∀ {z : Rat}, qa z ≤ pw 126 → qa z ≤ pw 200 := fun h => Rat.le_trans h (pw_le (by omega))
  obtain ⟨c1, k1, k2⟩ := upC_of V1 V2 (to200 u1) (to200 u2)
  obtain ⟨c2, k3, k4⟩ := upC_of V3 V4 (to200 u3) (to200 u4)
  obtain ⟨P, h⟩ := h
  obtain ⟨P', h'⟩ := h'
  rcases hend with ⟨rfl, rfl⟩ | ⟨r, e1, e2⟩
  · have z : ∀ {w : Nat}, W w 0 → ∃ s e, D.read w = .number s 0 e := by
      rintro w ⟨s, m, e, hr, hz⟩
      have : m = 0 := by
        rcases Nat.eq_zero_or_pos m with h | h
        · exact h
        · have := mg_pos (Nat.pos_iff_ne_zero.1 h) e
          have h2 := qa_sg s (mg_nn m e)
          rw [hz, qa_zero] at h2
          grind
      subst this
      exact ⟨s, e, hr⟩
    have hz1 := z k3
    obtain ⟨s3, i3, r3⟩ := hz1
    obtain ⟨s4, i4, r4⟩ := z k4
    have na : Op.Complex.isNaN (upC (sSub d q)).1 = false := by
      obtain ⟨_, _, _, r, _⟩ := k1
      exact fin_notNaN r
    obtain ⟨a1, a2⟩ := conv_parts c1
    obtain ⟨a3, a4⟩ := conv_parts c2
    have one : ∀ {P : Program} {v : Value}, Pr.may P (.ca .quo .f32) [csv (sSub d q), csv (sAdd d q)] v → ∃ x y e f, ZR (upC (sAdd d q)).1 (upC (sSub d q)).1 x ∧ ZR (upC (sAdd d q)).1 (upC (sSub d q)).2 y ∧ v = .complex .f32 e f ∧ (floatToFloatBits .f64 x .f32 = some e ∨ (Op.Complex.isNaN x = true ∧ nan32 e)) ∧ (floatToFloatBits .f64 y .f32 = some f ∨ (Op.Complex.isNaN y = true ∧ nan32 f)) := by
      intro P v hv
      obtain ⟨w, w', hv⟩ := hv
      have h5 : (Op.complexOp .quo .f32 (sSub d q).1 (sSub d q).2 (sAdd d q).1 (sAdd d q).2).run P w = .ok v w' := hv
      obtain ⟨x, y, w1, h6, z1, z2⟩ := quo_zero P (b := (upC (sSub d q)).2) na r3 r4 w
      have h6' : (Op.Complex.quotient (upC (sSub d q)).1 (upC (sSub d q)).2 (upC (sAdd d q)).1 (upC (sAdd d q)).2).run P w = .ok (x, y) w1 := h6
      rw [run_quo32 a1 a2 a3 a4, h6', Result.andThen_ok] at h5
      obtain ⟨e, w2, g1, g2⟩ := zr_conv (P := P) ⟨s3, i3, r3⟩ k1 z1 w1
      obtain ⟨f, w3, g3, g4⟩ := zr_conv (P := P) ⟨s3, i3, r3⟩ k2 z2 w2
      simp only [Sem.run_bind, g1, g3, Result.andThen_ok, Sem.run_pure] at h5
      cases h5
      exact ⟨x, y, e, f, z1, z2, rfl, g2, g4⟩
    obtain ⟨x, y, e, f, z1, z2, rfl, g1, g2⟩ := one h
    obtain ⟨x', y', e', f', z3, z4, rfl, g3, g4⟩ := one h'
    exact ⟨e, f, e', f', rfl, rfl, conv_sameS (z1.same z3) g1 g3, conv_sameS (z2.same z4) g2 g4⟩
  · have q1 := may_squo c1 c2 e1 e2 h
    have q2 := may_squo c1 c2 e1 e2 h'
    exact ⟨_, _, _, _, q1, q2, .inl rfl, .inl rfl⟩
end Go.Sx

/- Indexes in 32 bits. -/
namespace Go.Sx
open Go Ieee
set_option linter.unusedVariables false
set_option linter.unusedSimpArgs false

/-- An index as it is drawn: neither great nor of a great bottom. -/
def small (v : Q) : Prop := (-300000000 * v.2.2 ≤ v.1 ∧ v.1 ≤ 300000000 * v.2.2) ∧ (-300000000 * v.2.2 ≤ v.2.1 ∧ v.2.1 ≤ 300000000 * v.2.2) ∧ v.2.2 ≤ 8
theorem V_fun {w : Nat} {x y : Rat} (h : V w x) (k : V w y) : x = y := by
  obtain ⟨s, m, e, r, rfl⟩ := h
  obtain ⟨s', m', e', r', rfl⟩ := k
  rw [r] at r'
  cases r'
  rfl
theorem nr_W {n : Int} (h : n.natAbs ≤ 2000000000) : W (nrF n) (n : Rat) := by
  obtain ⟨m, e, r, hv⟩ := nr_exact h
  refine ⟨_, m, e, r, ?_⟩
  rw [hv]
  exact natAbs_val n _ (fun h => by simpa using h) (fun h => by simp; omega)
theorem qa_int (n : Int) : qa (n : Rat) = ((n.natAbs : Nat) : Rat) := by
  rcases Int.le_total 0 n with h | h
  · have e : (n : Rat) = ((n.natAbs : Int) : Rat) := by congr 1; omega
    rw [e]
    exact qa_nnx (by exact_mod_cast Int.natCast_nonneg _)
  · have e : (n : Rat) = -((n.natAbs : Int) : Rat) := by
      have : n = -(n.natAbs : Int) := by omega
      rw [← Rat.intCast_neg, ← this]
    rw [e, qa_neg]
    exact qa_nnx (by exact_mod_cast Int.natCast_nonneg _)
/-- A part of an index, exactly and as a floating number of 64 bits. -/
theorem fw_W {r d : Int} (hr : r.natAbs ≤ 2000000000) (h1 : -300000000 * d ≤ r) (h2 : r ≤ 300000000 * d) (hd : 1 ≤ d) (hd8 : d ≤ 8) : ∃ z, W (fwF r d) z ∧ Nr eD z ((r : Rat) / (d : Rat)) ∧ qa ((r : Rat) / (d : Rat)) ≤ 300000000 ∧ Lo (-3) ((r : Rat) / (d : Rat)) ∧ (r ≠ 0 → (r : Rat) / (d : Rat) ≠ 0) := by
  have d0 : (d : Rat) ≠ 0 := by
    intro h
    have : d = 0 := by exact_mod_cast h
    omega
  have e := qa_div (x := (r : Rat)) d0
  rw [qa_int, qa_int] at e
  have dp : (0 : Rat) < ((d.natAbs : Nat) : Rat) := by exact_mod_cast (show 0 < d.natAbs by omega)
  have up : qa ((r : Rat) / (d : Rat)) ≤ 300000000 := by
    refine Rat.le_of_mul_le_mul_right ?_ dp
    rw [e]
    have : r.natAbs ≤ 300000000 * d.natAbs := by omega
    exact_mod_cast this
  have lo : Lo (-3) ((r : Rat) / (d : Rat)) := by
    by_cases h0 : r = 0
    · left
      rw [h0, show ((0 : Int) : Rat) = 0 from rfl, Rat.div_def, Rat.zero_mul]
    · right
      refine Rat.le_of_mul_le_mul_right ?_ dp
      rw [e]
      have h3 : ((d.natAbs : Nat) : Rat) ≤ 8 := by exact_mod_cast (show d.natAbs ≤ 8 by omega)
      have h4 : (1 : Rat) ≤ ((r.natAbs : Nat) : Rat) := by exact_mod_cast (show 1 ≤ r.natAbs by omega)
      have h5 : pw (-3) = 1 / 8 := by decide +kernel
      rw [h5]
      grind
  have p29 : (300000000 : Rat) ≤ pw 29 := by decide +kernel
  obtain ⟨w, z, hw, hz, hn⟩ := W_quo (nr_W hr) (nr_W (n := d) (by omega)) d0 (rn_of lo (Rat.le_trans up p29) (by omega) (by omega))
  have hf : fwF r d = w := by unfold fwF; rw [hw]; rfl
  refine ⟨z, by rw [hf]; exact hz, hn, up, lo, fun h0 hz => ?_⟩
  rw [hz, qa_zero, Rat.zero_mul] at e
  have : r.natAbs = 0 := by exact_mod_cast e.symm
  omega
/-- What is kept in 32 bits of a number that is not small. -/
theorem Rd.nr {x z : Rat} (h : Rd x z) (hz : z = 0 ∨ pw (-100) ≤ qa z) : Nr (pw (-24)) x z := by
  rcases hz with rfl | hz
  · rw [h.zero]
    unfold Nr
    rw [show (0 : Rat) - 0 = 0 by grind, qa_zero]
    grind
  · rcases h.near with h | h
    · exact h
    · have : pw (-126) < pw (-100) := by decide +kernel
      grind
theorem Nr.trans {u v w x y z : Rat} (h : Nr u x y) (k : Nr v y z) (hu : 0 ≤ u) (hv : v ≤ 1) (hw : 2 * u + v ≤ w) : Nr w x z := by
  unfold Nr at *
  have h1 : qa (x - z) ≤ qa (x - y) + qa (y - z) := by
    have := qa_add (x - y) (y - z)
    rw [show x - y + (y - z) = x - z by grind] at this
    exact this
  have h2 := (show Nr v y z from k).up
  have h3 := Rat.mul_le_mul_of_nonneg_left h2 hu
  have z0 := qa_nn z
  have h4 := Rat.mul_le_mul_of_nonneg_right hv z0
  have h5 := Rat.mul_nonneg hu z0
  have h6 : u * ((1 + v) * qa z) ≤ 2 * (u * qa z) := by
    have := Rat.mul_le_mul_of_nonneg_left h4 hu
    grind
  have h7 := Rat.mul_le_mul_of_nonneg_right hw z0
  grind
/-- Bounds of what is near in 32 bits. -/
def e32 : Rat := pw (-22)
theorem e32_le : e32 ≤ 1 / 1000000 := by decide +kernel
theorem e32_nn : 0 ≤ e32 := Rat.le_of_lt (pw_pos _)
theorem Nr.a32 {z t : Rat} (h : Nr e32 z t) : qa z ≤ 1001 / 1000 * qa t := by
  have h1 := h.up
  have h3 := Rat.mul_le_mul_of_nonneg_right e32_le (qa_nn t)
  have := qa_nn t
  grind
theorem Nr.b32 {z t : Rat} (h : Nr e32 z t) : qa t ≤ 1001 / 1000 * qa z := by
  have h1 := h.lo
  have h3 := Rat.mul_le_mul_of_nonneg_right e32_le (qa_nn t)
  have := qa_nn t
  grind
theorem rd_e32 {x z t : Rat} (h : Rd x z) (k : Nr eD z t) (ht : Lo (-90) t) : Nr e32 x t := by
  have hz : z = 0 ∨ pw (-100) ≤ qa z := (k.lo' ht).imp id fun a => Rat.le_trans (pw_le (by omega)) a
  refine (h.nr hz).trans k (Rat.le_of_lt (pw_pos _)) ?_ ?_
  · have := eD_le; grind
  · decide +kernel
theorem e32_2 {x y z : Rat} (h : Nr e32 x y) (k : Nr eD y z) : Nr (3 * e32) x z := by
  refine h.trans k e32_nn ?_ ?_
  · have := eD_le; grind
  · decide +kernel
/-- Its parts in 32 bits. -/
theorem idx_near {v : Q} (hv : validQ v = true) (hs : small v) : cConvBits .f64 (idxF v).1 (idxF v).2 .f32 = some (dnC (idxF v)) ∧
    ∃ x y, V (dnC (idxF v)).1 x ∧ V (dnC (idxF v)).2 y ∧ Nr e32 x (reR v) ∧ Nr e32 y (imR v) ∧ qa (reR v) ≤ 300000000 ∧ qa (imR v) ≤ 300000000 ∧ Lo (-3) (reR v) ∧ Lo (-3) (imR v) ∧ (v.1 ≠ 0 → reR v ≠ 0) ∧ (v.2.1 ≠ 0 → imR v ≠ 0) := by
  obtain ⟨b1, b2, b3⟩ := valid_bounds hv
  obtain ⟨⟨s1, s2⟩, ⟨s3, s4⟩, s5⟩ := hs
  obtain ⟨z1, w1, n1, u1, l1, c1⟩ := fw_W (r := v.1) (d := v.2.2) (by omega) s1 s2 b3.1 s5
  obtain ⟨z2, w2, n2, u2, l2, c2⟩ := fw_W (r := v.2.1) (d := v.2.2) (by omega) s3 s4 b3.1 s5
  have p29 : (300000000 : Rat) ≤ pw 29 := by decide +kernel
  have q1 : qa z1 ≤ pw 126 := Rat.le_trans (n1.up' (Rat.le_trans u1 p29)) (pw_le (by omega))
  have q2 : qa z2 ≤ pw 126 := Rat.le_trans (n2.up' (Rat.le_trans u2 p29)) (pw_le (by omega))
  obtain ⟨e, x, y, V1, V2, r1, r2⟩ := dnC_of (z := idxF v) w1 w2 q1 q2
  exact ⟨e, x, y, V1, V2, rd_e32 r1 n1 (l1.mono (by omega)), rd_e32 r2 n2 (l2.mono (by omega)), u1, u2, l1, l2, c1, c2⟩
/-- i times an index. -/
theorem i_near {n : CF} {x y : Rat} (hx : V n.1 x) (hy : V n.2 y) (bx : qa x ≤ pw 30) (by' : qa y ≤ pw 30) (lx : Lo (-80) x) (ly : Lo (-80) y) : ∃ p q, V (sMul iS n).1 p ∧ V (sMul iS n).2 q ∧ Nr e32 p (-y) ∧ Nr e32 q x := by
  obtain ⟨_, w1, w2⟩ := upC_of (z := iS) zero_V one_V (by rw [qa_zero]; exact Rat.le_of_lt (pw_pos _)) (by decide +kernel)
  obtain ⟨_, w3, w4⟩ := upC_of hx hy (Rat.le_trans bx (pw_le (by omega))) (Rat.le_trans by' (pw_le (by omega)))
  have o1 : qa (1 : Rat) ≤ pw 0 := by decide +kernel
  have o0 : qa (0 : Rat) ≤ pw 0 := by rw [qa_zero]; exact Rat.le_of_lt (pw_pos _)
  obtain ⟨re, im, p, q, e3, hp, hq, hm⟩ := mul_Mu w1 w2 w3 w4 (V_md zero_V o0) (V_md one_V o1) (V_md hx bx) (V_md hy by') (by omega)
  have e3' : wMul (upC iS) (upC n) = (re, im) := wMul_of e3
  obtain ⟨A, B, C, E, rA, rB, rp, rC, rE, rq, _, _⟩ := hm
  have hA := rA.zz (Rat.zero_mul x)
  have hC := rC.zz (Rat.zero_mul y)
  subst hA hC
  rw [Rat.one_mul] at rB rE
  rw [show (0 : Rat) + -B = -B by grind] at rp
  rw [show (0 : Rat) + E = E by grind] at rq
  have two : ∀ {a b c : Rat}, Nr eD a b → Nr eD b c → Nr (pw (-48)) a c := fun h k => h.trans k eD_nn (by have := eD_le; grind) (by decide +kernel)
  have np : Nr (pw (-48)) p (-y) := two rp rB.neg
  have nq : Nr (pw (-48)) q x := two rq rE
  have up : ∀ a t : Rat, Nr (pw (-48)) a t → qa t ≤ pw 30 → qa a ≤ pw 126 := fun a t h ht => by
    have h1 := h.up
    have p1 : pw (-48) ≤ 1 := by decide +kernel
    have h2 := Rat.mul_le_mul_of_nonneg_right p1 (qa_nn t)
    have h3 : pw 126 = 2 * pw 125 := by rw [← pw_succ]; rfl
    have h4 : pw 30 ≤ pw 125 := pw_le (by omega)
    grind
  have dn : ∀ a z t : Rat, Rd a z → Nr (pw (-48)) z t → Lo (-80) t → Nr e32 a t := fun a z t h k ht => by
    have hz : z = 0 ∨ pw (-100) ≤ qa z := by
      rcases ht with rfl | ht
      · exact .inl k.zero
      · right
        have h1 := k.lo
        have p1 : pw (-48) ≤ 1 / 2 := by decide +kernel
        have h2 := Rat.mul_le_mul_of_nonneg_right p1 (qa_nn t)
        have h3 : pw (-100) ≤ pw (-81) := pw_le (by omega)
        have h4 : pw (-80) = 2 * pw (-81) := by rw [← pw_succ]; rfl
        grind
    exact (h.nr hz).trans k (Rat.le_of_lt (pw_pos _)) (by decide +kernel) (by decide +kernel)
  obtain ⟨_, p', q', V1, V2, r1, r2⟩ := dnC_of (z := (re, im)) hp hq (up _ _ np (by rw [qa_neg]; exact by')) (up _ _ nq bx)
  have hs : sMul iS n = dnC (re, im) := by unfold sMul; rw [e3']
  exact ⟨p', q', by rw [hs]; exact V1, by rw [hs]; exact V2, dn _ _ _ r1 np (lo_neg ly), dn _ _ _ r2 nq lx⟩
theorem idx_ix {v : Q} (hv : validQ v = true) (hz : ¬ (v.1 = 0 ∧ v.2.1 = 0)) (hs : small v) : Ix (dnC (idxF v)) := by
  obtain ⟨_, x, y, V1, V2, n1, n2, u1, u2, l1, l2, c1, c2⟩ := idx_near hv hs
  obtain ⟨b1, b2, b3⟩ := valid_bounds hv
  -- the parts, exactly, beside one another
  have g0 : Gc 2000000000 (reR v) (imR v) := by
    have d0 : (v.2.2 : Rat) ≠ 0 := by
      intro h
      have : v.2.2 = 0 := by exact_mod_cast h
      omega
    have key : ∀ {r s : Int}, r ≠ 0 → s.natAbs ≤ 2000000000 → qa ((s : Rat) / (v.2.2 : Rat)) ≤ 2000000000 * qa ((r : Rat) / (v.2.2 : Rat)) := by
      intro r s hr hs
      refine Rat.le_of_mul_le_mul_right ?_ (qa_pos d0)
      rw [qa_div d0, Rat.mul_assoc, qa_div d0, qa_int, qa_int]
      have : s.natAbs ≤ 2000000000 * r.natAbs := by omega
      exact_mod_cast this
    refine ⟨fun h => key (fun h0 => h ?_) (by omega), fun h => key (fun h0 => h ?_) (by omega)⟩
    · unfold reR; rw [h0, show ((0 : Int) : Rat) = 0 from rfl, Rat.div_def, Rat.zero_mul]
    · unfold imR; rw [h0, show ((0 : Int) : Rat) = 0 from rfl, Rat.div_def, Rat.zero_mul]
  have p31 : 21 / 20 * (2000000000 : Rat) ≤ pw 31 := by decide +kernel
  have a1 := n1.a32; have a2 := n1.b32; have a3 := n2.a32; have a4 := n2.b32
  have gxy : Gc (pw 31) x y := (gc_scale (m := 1) (by decide) g0 (by decide) (by have := qa_nn (reR v); grind) (by have := qa_nn x; grind) (by have := qa_nn (imR v); grind) (by have := qa_nn y; grind)).mono p31
  have p29 : (300000000 : Rat) * (1001 / 1000) ≤ pw 29 := by decide +kernel
  have bx : qa x ≤ pw 29 := by grind
  have by' : qa y ≤ pw 29 := by grind
  have lo4 : ∀ {a t : Rat}, Nr e32 a t → t ≠ 0 → Lo (-3) t → pw (-4) ≤ qa a := fun h ht hl => by
    have h1 := h.b32
    have h2 := hl.resolve_left ht
    have h3 : pw (-3) = 2 * pw (-4) := by rw [← pw_succ]; rfl
    have := pw_pos (-4)
    grind
  have dn : Dn 29 (dnC (idxF v)) := by
    refine ⟨x, y, V1, V2, bx, by', gxy, ?_⟩
    by_cases h : v.1 = 0
    · exact .inr (lo4 n2 (c2 fun h2 => hz ⟨h, h2⟩) l2)
    · exact .inl (lo4 n1 (c1 h) l1)
  have lx : Lo (-80) x := by
    rcases l1 with h | h
    · left
      rw [h] at n1
      exact n1.zero
    · right
      exact Rat.le_trans (pw_le (by omega)) (lo4 n1 (fun h0 => by rw [h0, qa_zero] at h; have := pw_pos (-3); grind) (.inr h))
  have ly : Lo (-80) y := by
    rcases l2 with h | h
    · left
      rw [h] at n2
      exact n2.zero
    · right
      exact Rat.le_trans (pw_le (by omega)) (lo4 n2 (fun h0 => by rw [h0, qa_zero] at h; have := pw_pos (-3); grind) (.inr h))
  obtain ⟨p, q, V3, V4, m1, m2⟩ := i_near V1 V2 (Rat.le_trans bx (pw_le (by omega))) (Rat.le_trans by' (pw_le (by omega))) lx ly
  have c1 := m1.a32; have c2 := m1.b32; have c3 := m2.a32; have c4 := m2.b32
  rw [qa_neg] at c1 c2
  have gpq : Gc (pw 31) p q := (gc_scale (m := 1) (by decide) g0.symm (by decide) (by have := qa_nn (imR v); grind) (by have := qa_nn p; grind) (by have := qa_nn (reR v); grind) (by have := qa_nn q; grind)).mono p31
  have p32 : pw 29 * (1001 / 1000) ≤ pw 32 := by decide +kernel
  refine ⟨dn, p, q, V3, V4, by grind, by grind, gpq, ?_⟩
  rintro ⟨rfl, rfl⟩
  obtain ⟨x', y', V1', V2', _, _, _, h4⟩ := dn
  rw [qa_zero] at c2 c4
  have hx0 : qa x = 0 := by have := qa_nn x; grind
  have hy0 : qa y = 0 := by have := qa_nn y; grind
  have : x = x' := V_fun V1 V1'
  have : y = y' := V_fun V2 V2'
  subst x' y'
  rw [hx0, hy0] at h4
  have := pw_pos (-4)
  rcases h4 with h | h <;> grind
end Go.Sx

/- Clear films in 32 bits: how the shares add up. -/
namespace Go.Sx
open Go Ieee
set_option linter.unusedVariables false
set_option linter.unusedSimpArgs false

/-- So many shares of 32 bits. -/
def Es (k : Nat) : Rat := (k : Rat) * e32
theorem Es_nn (k : Nat) : 0 ≤ Es k := Rat.mul_nonneg (by exact_mod_cast Nat.zero_le k) e32_nn
theorem Es_add (k l : Nat) : Es (k + l) = Es k + Es l := by unfold Es; rw [Rat.natCast_add, Rat.add_mul]
theorem Es_one : Es 1 = e32 := by unfold Es; rw [show ((1 : Nat) : Rat) = 1 from rfl, Rat.one_mul]
theorem Es_mono {k l : Nat} (h : k ≤ l) : Es k ≤ Es l := by
  have := Es_nn (l - k)
  have e : Es l = Es k + Es (l - k) := by rw [← Es_add]; congr 1; omega
  grind
theorem Es_le {k : Nat} (h : k ≤ 250) : Es k ≤ pw (-14) := by
  refine Rat.le_trans (Es_mono h) ?_
  unfold Es
  decide +kernel
theorem Es_mul {k l : Nat} (hk : k ≤ 250) (hl : l ≤ 250) : Es k * Es l ≤ e32 := by
  have h0 : Es k ≤ 1 / 1000 := Rat.le_trans (Es_le hk) (by decide +kernel)
  have h1 := Rat.mul_le_mul_of_nonneg_right h0 (Es_nn l)
  have h2 := Es_mono hl
  have h3 : Es 250 = 250 * e32 := rfl
  have := e32_nn
  grind
theorem eD_e32 : 8 * eD ≤ e32 := by decide +kernel
theorem Nr.es {k l : Nat} {x y : Rat} (h : Nr (Es k) x y) (hl : k ≤ l) : Nr (Es l) x y := h.mono (Es_mono hl)
theorem Nr.esT {k l : Nat} {x y z : Rat} (h : Nr (Es k) x y) (g : Nr (Es l) y z) (hk : k ≤ 250) (hl : l ≤ 250) : Nr (Es (k + l + 1)) x z := by
  unfold Nr at *
  have h1 : qa (x - z) ≤ qa (x - y) + qa (y - z) := by
    have := qa_add (x - y) (y - z)
    rw [show x - y + (y - z) = x - z by grind] at this
    exact this
  have h2 := (show Nr (Es l) y z from g).up
  have h3 := Rat.mul_le_mul_of_nonneg_left h2 (Es_nn k)
  have h4 := Rat.mul_le_mul_of_nonneg_right (Es_mul hk hl) (qa_nn z)
  have r1 : Es k * ((1 + Es l) * qa z) = Es k * qa z + Es k * Es l * qa z := by grind
  rw [r1] at h3
  rw [Es_add, Es_add, Es_one]
  have r2 : (Es k + Es l + e32) * qa z = Es k * qa z + Es l * qa z + e32 * qa z := by grind
  rw [r2]
  grind
theorem Nr.esM {k l : Nat} {x y X Y : Rat} (h : Nr (Es k) x X) (g : Nr (Es l) y Y) (hk : k ≤ 250) (hl : l ≤ 250) : Nr (Es (k + l + 1)) (x * y) (X * Y) := by
  have hy := g.up
  unfold Nr at *
  have h1 : qa (x * y - X * Y) ≤ qa (x - X) * qa y + qa X * qa (y - Y) := by
    have := qa_add ((x - X) * y) (X * (y - Y))
    rw [qa_mul, qa_mul, show (x - X) * y + X * (y - Y) = x * y - X * Y by grind] at this
    exact this
  have h2 := Rat.mul_le_mul_of_nonneg_right h (qa_nn y)
  have h3 := Rat.mul_le_mul_of_nonneg_left g (qa_nn X)
  have h4 := Rat.mul_le_mul_of_nonneg_left hy (Rat.mul_nonneg (Es_nn k) (qa_nn X))
  have h5 := Rat.mul_le_mul_of_nonneg_right (Es_mul hk hl) (Rat.mul_nonneg (qa_nn X) (qa_nn Y))
  rw [qa_mul, Es_add, Es_add, Es_one]
  have r1 : Es k * qa X * ((1 + Es l) * qa Y) = Es k * (qa X * qa Y) + Es k * Es l * (qa X * qa Y) := by grind
  have r2 : qa X * (Es l * qa Y) = Es l * (qa X * qa Y) := by grind
  have r3 : (Es k + Es l + e32) * (qa X * qa Y) = Es k * (qa X * qa Y) + Es l * (qa X * qa Y) + e32 * (qa X * qa Y) := by grind
  rw [r1] at h4
  rw [r2] at h3
  rw [r3]
  grind
theorem Nr.esD {k l : Nat} {x y X Y : Rat} (h : Nr (Es k) x X) (g : Nr (Es l) y Y) (hY : Y ≠ 0) (hk : k ≤ 100) (hl : l ≤ 100) : Nr (Es (k + l + 1)) (x / y) (X / Y) := by
  have hy := g.lo
  have l1 : Es l ≤ 1 / 1000 := by
    have := Es_le (show l ≤ 250 by omega)
    have : pw (-14) ≤ 1 / 1000 := by decide +kernel
    grind
  have pY := qa_pos hY
  have hy0 : y ≠ 0 := by
    rintro rfl
    rw [qa_zero] at hy
    have := Rat.mul_le_mul_of_nonneg_right l1 (Rat.le_of_lt pY)
    grind
  unfold Nr at *
  have py := qa_pos hy0
  -- against y
  refine Rat.le_of_mul_le_mul_right ?_ py
  rw [← qa_mul]
  have e1 : (x / y - X / Y) * y = (x - X) - X / Y * (y - Y) := by grind
  have hX : qa (X / Y) * qa Y = qa X := qa_div hY
  rw [e1]
  have h1 := qa_sub (x - X) (X / Y * (y - Y))
  rw [qa_mul] at h1
  have h2 := Rat.mul_le_mul_of_nonneg_left g (qa_nn (X / Y))
  rw [← hX] at h
  generalize qa (X / Y) = Z at *
  have hZ : 0 ≤ Z := by
    refine Rat.le_of_mul_le_mul_right ?_ pY
    rw [hX, Rat.zero_mul]
    exact qa_nn X
  have up : qa (x - X - X / Y * (y - Y)) ≤ (Es k + Es l) * (Z * qa Y) := by grind
  have dn : (Es k + Es l) * (Z * qa Y) ≤ Es (k + l + 1) * Z * ((1 - Es l) * qa Y) := by
    have c1 : Es k + Es l ≤ Es (k + l + 1) * (1 - Es l) := by
      have := Es_mul (show k + l + 1 ≤ 250 by omega) (show l ≤ 250 by omega)
      rw [Es_add, Es_add, Es_one] at *
      grind
    have := Rat.mul_le_mul_of_nonneg_right c1 (Rat.mul_nonneg hZ (Rat.le_of_lt pY))
    grind
  have fin := Rat.mul_le_mul_of_nonneg_left hy (Rat.mul_nonneg (Es_nn (k + l + 1)) hZ)
  grind
theorem Nr.esE {z t : Rat} (h : Nr eD z t) : Nr (Es 1) z t := h.mono (by rw [Es_one]; have := eD_e32; have := eD_nn; grind)
theorem Rd.es {x z : Rat} (h : Rd x z) (hz : z = 0 ∨ pw (-100) ≤ qa z) : Nr (Es 1) x z := (h.nr hz).mono (by rw [Es_one]; decide +kernel)
theorem rd_close {z w U : Rat} (h : Rd z w) (hw : qa w ≤ 2 * U) (hU : 8 * pw (-126) ≤ pw (-24) * U) : qa (z - w) ≤ 4 * (pw (-24) * U) := by
  have q24 := Rat.le_of_lt (pw_pos (-24))
  have q126 := pw_pos (-126)
  have k3 := Rat.mul_le_mul_of_nonneg_left hw q24
  have r3 : pw (-24) * (2 * U) = 2 * (pw (-24) * U) := by grind
  rw [r3] at k3
  have k4 := qa_sub z w
  have k5 := h.two
  rcases h.near with hn | hn
  · generalize pw (-24) * U = a at *
    grind
  · generalize pw (-24) * U = a at *
    grind
theorem sum_lo {x y D Q : Rat} (hs : 0 ≤ D * Q) (hx : Nr (Es 90) x D) (hy : Nr (Es 90) y Q) : qa (D + Q) ≤ 2 * qa (x + y) := by
  have hU := qa_same hs
  have l1 : Es 90 ≤ 1 / 1000 := by decide +kernel
  have hx : qa (x - D) ≤ Es 90 * qa D := hx
  have hy : qa (y - Q) ≤ Es 90 * qa Q := hy
  have k1 := Rat.mul_le_mul_of_nonneg_right l1 (qa_nn D)
  have k2 := Rat.mul_le_mul_of_nonneg_right l1 (qa_nn Q)
  have := qa_add (x - D) (y - Q)
  rw [show x - D + (y - Q) = x + y - (D + Q) by grind] at this
  have := qa_tri2 (x + y) (D + Q)
  have := qa_nn D
  have := qa_nn Q
  grind
set_option maxHeartbeats 1000000 in
/-- The ends. -/
theorem s_ends {x y D Q b t den n1 e r : Rat} (hs : 0 ≤ D * Q) (hP : pw (-70) ≤ qa (D + Q)) (hx : Nr (Es 90) x D) (hy : Nr (Es 90) y Q) (hb : Rd b (x + y)) (ht : Rd t (x - y)) (h1 : Nr eD n1 t) (h2 : Nr eD den b) (h3 : Nr eD e (n1 / den)) (hr : Rd r e) :
    qa (r - (D - Q) / (D + Q)) ≤ pw (-12) := by
  have hU := qa_same hs
  have hUp : 0 < qa (D + Q) := by have := pw_pos (-70); grind
  have hne : D + Q ≠ 0 := fun h => by rw [h, qa_zero] at hUp; exact absurd hUp (by decide)
  have e53 : Es 92 ≤ 1 / 1000 := by decide +kernel
  have e51 : Es 92 = Es 90 + 2 * e32 := by rw [show (92 : Nat) = 90 + 1 + 1 by rfl, Es_add, Es_add, Es_one]; grind
  have p23 : 2 * pw (-24) = pw (-23) := by rw [← pw_succ]; rfl
  have p22 : 2 * pw (-23) = e32 := by rw [← pw_succ]; rfl
  have n32 := e32_nn
  have nE := Es_nn 51
  have q24 := Rat.le_of_lt (pw_pos (-24))
  have D0 := qa_nn D
  have Q0 := qa_nn Q
  have hx : qa (x - D) ≤ Es 90 * qa D := hx
  have hy : qa (y - Q) ≤ Es 90 * qa Q := hy
  have a1 : qa (x - D) + qa (y - Q) ≤ Es 90 * qa (D + Q) := by rw [hU]; grind
  have s1 : qa ((x + y) - (D + Q)) ≤ Es 90 * qa (D + Q) := by
    have := qa_add (x - D) (y - Q)
    rw [show x - D + (y - Q) = x + y - (D + Q) by grind] at this
    grind
  have s2 : qa ((x - y) - (D - Q)) ≤ Es 90 * qa (D + Q) := by
    have := qa_sub (x - D) (y - Q)
    rw [show x - D - (y - Q) = x - y - (D - Q) by grind] at this
    grind
  have hDQ : qa (D - Q) ≤ qa (D + Q) := by rw [hU]; exact qa_sub D Q
  have hsm : Es 90 * qa (D + Q) ≤ 1 / 1000 * qa (D + Q) := Rat.mul_le_mul_of_nonneg_right (by grind) (Rat.le_of_lt hUp)
  have u1 : qa (x + y) ≤ 2 * qa (D + Q) := by have := qa_tri (x + y) (D + Q); grind
  have u2 : qa (x - y) ≤ 2 * qa (D + Q) := by have := qa_tri (x - y) (D - Q); grind
  have l1 : qa (D + Q) ≤ 2 * qa (x + y) := by have := qa_tri2 (x + y) (D + Q); grind
  have tiny : 8 * pw (-126) ≤ pw (-24) * qa (D + Q) := by
    have k1 := Rat.mul_le_mul_of_nonneg_left hP q24
    rw [← pw_add] at k1
    have k2 : 8 * pw (-126) ≤ pw (-24 + -70) := by decide +kernel
    grind
  have k5 : pw (-24) ≤ 1 := by decide +kernel
  have k6 := Rat.mul_le_mul_of_nonneg_right k5 (Rat.le_of_lt hUp)
  have m32 : e32 * qa (D + Q) = 4 * (pw (-24) * qa (D + Q)) := by rw [← p22, ← p23]; grind
  have cl : ∀ {z w : Rat}, Rd z w → qa w ≤ 2 * qa (D + Q) → qa (z - w) ≤ e32 * qa (D + Q) := fun {z w} h hw => by
    rw [m32]
    exact rd_close h hw tiny
  have b1 := cl hb u1
  have t1 := cl ht u2
  have hbb : qa (b - (D + Q)) ≤ Es 92 * qa (D + Q) := by
    have := qa_add (b - (x + y)) (x + y - (D + Q))
    rw [show b - (x + y) + (x + y - (D + Q)) = b - (D + Q) by grind] at this
    rw [e51]
    have := Rat.mul_nonneg n32 (Rat.le_of_lt hUp)
    grind
  have htt : qa (t - (D - Q)) ≤ Es 92 * qa (D + Q) := by
    have := qa_add (t - (x - y)) (x - y - (D - Q))
    rw [show t - (x - y) + (x - y - (D - Q)) = t - (D - Q) by grind] at this
    rw [e51]
    have := Rat.mul_nonneg n32 (Rat.le_of_lt hUp)
    grind
  have hsm2 : Es 92 * qa (D + Q) ≤ 1 / 1000 * qa (D + Q) := Rat.mul_le_mul_of_nonneg_right e53 (Rat.le_of_lt hUp)
  have ub : qa b ≤ 1001 / 1000 * qa (D + Q) := by have := qa_tri b (D + Q); grind
  have lb : 999 / 1000 * qa (D + Q) ≤ qa b := by have := qa_tri2 b (D + Q); grind
  have ut : qa t ≤ 1001 / 1000 * qa (D + Q) := by have := qa_tri t (D - Q); grind
  -- the quotient
  have b0 : b ≠ 0 := fun h => by rw [h, qa_zero] at lb; grind
  have d0 := h2.nz b0
  have bd := h2.b
  have ad := h2.a
  have an := h1.a
  have hq := qa_div (x := n1) d0
  have ue : qa e ≤ 1005 / 1000 * (1001 / 1000) := by
    have g1 : qa (n1 / den) ≤ 1005 / 1000 := by
      refine Rat.le_of_mul_le_mul_right ?_ (qa_pos d0)
      rw [hq]
      grind
    have := h3.a
    grind
  have ee := eD_e32
  have nD := eD_nn
  have mD : 8 * (eD * qa (D + Q)) ≤ e32 * qa (D + Q) := by
    have := Rat.mul_le_mul_of_nonneg_right ee (Rat.le_of_lt hUp)
    grind
  have c1 : qa (den - b) ≤ eD * (2 * qa (D + Q)) := Rat.le_trans (show qa (den - b) ≤ eD * qa b from h2) (Rat.mul_le_mul_of_nonneg_left (by grind) nD)
  have c2 : qa (n1 - t) ≤ eD * (2 * qa (D + Q)) := Rat.le_trans (show qa (n1 - t) ≤ eD * qa t from h1) (Rat.mul_le_mul_of_nonneg_left (by grind) nD)
  have c3 : qa (e * den - n1) ≤ eD * (2 * qa (D + Q)) := by
    have g1 : qa (e - n1 / den) ≤ eD * qa (n1 / den) := h3
    have g2 := Rat.mul_le_mul_of_nonneg_right g1 (qa_nn den)
    rw [← qa_mul, show (e - n1 / den) * den = e * den - n1 by grind, Rat.mul_assoc, hq] at g2
    exact Rat.le_trans g2 (Rat.mul_le_mul_of_nonneg_left (by grind) nD)
  -- all of it
  have hT : (D - Q) / (D + Q) * (D + Q) = D - Q := by grind
  have h14 : 4 * Es 92 ≤ pw (-13) := by decide +kernel
  have fin : qa (e - (D - Q) / (D + Q)) ≤ pw (-13) := by
    refine Rat.le_of_mul_le_mul_right ?_ hUp
    rw [← qa_mul]
    have g0 : (e - (D - Q) / (D + Q)) * (D + Q) = e * (D + Q - b) + (e * (b - den) + ((e * den - n1) + ((n1 - t) + (t - (D - Q))))) := by grind
    rw [g0]
    have g1 := qa_add (e * (D + Q - b)) (e * (b - den) + ((e * den - n1) + ((n1 - t) + (t - (D - Q)))))
    have g2 := qa_add (e * (b - den)) ((e * den - n1) + ((n1 - t) + (t - (D - Q))))
    have g3 := qa_add (e * den - n1) ((n1 - t) + (t - (D - Q)))
    have g4 := qa_add (n1 - t) (t - (D - Q))
    have g5 : qa (e * (D + Q - b)) ≤ 101 / 100 * qa (b - (D + Q)) := by
      rw [qa_mul, show D + Q - b = -(b - (D + Q)) by grind, qa_neg]
      exact Rat.mul_le_mul_of_nonneg_right (by grind) (qa_nn _)
    have g6 : qa (e * (b - den)) ≤ 101 / 100 * qa (den - b) := by
      rw [qa_mul, show b - den = -(den - b) by grind, qa_neg]
      exact Rat.mul_le_mul_of_nonneg_right (by grind) (qa_nn _)
    have g7 := Rat.mul_le_mul_of_nonneg_right h14 (Rat.le_of_lt hUp)
    have g8' : e32 ≤ Es 92 := by rw [← Es_one]; exact Es_mono (by omega)
    have g8 : e32 * qa (D + Q) ≤ Es 92 * qa (D + Q) := Rat.mul_le_mul_of_nonneg_right g8' (Rat.le_of_lt hUp)
    have g9 := Rat.mul_nonneg n32 (Rat.le_of_lt hUp)
    grind
  have last : qa (r - e) ≤ pw (-13) := by
    have z1 : pw (-24) * qa e ≤ pw (-24) * 2 := Rat.mul_le_mul_of_nonneg_left (by grind) q24
    have z2 : pw (-24) * 2 ≤ pw (-13) := by decide +kernel
    have z3 : 3 * pw (-126) ≤ pw (-13) := by decide +kernel
    rcases hr.near with hn | hn
    · grind
    · have k4 := qa_sub r e
      have := hr.two
      grind
  have e13 : pw (-12) = 2 * pw (-13) := by rw [← pw_succ]; rfl
  have := qa_add (r - e) (e - (D - Q) / (D + Q))
  rw [show r - e + (e - (D - Q) / (D + Q)) = r - (D - Q) / (D + Q) by grind] at this
  grind
end Go.Sx

/- Clear films in 32 bits: what each step gives. -/
namespace Go.Sx
open Go Ieee
set_option linter.unusedVariables false
set_option linter.unusedSimpArgs false

/-- A real (or imaginary) number, near to t. -/
def Ns (r : Bool) (k : Nat) (t : Rat) (z : CF) : Prop := ∃ x, V (mainP r z) x ∧ V (othP r z) 0 ∧ Nr (Es k) x t
/-- Of such a size. -/
def Rq (B : Int) (t : Rat) : Prop := pw (-B) ≤ qa t ∧ qa t ≤ pw B
theorem Rq.ne {B : Int} {t : Rat} (h : Rq B t) : t ≠ 0 := by
  rintro rfl
  have := h.1
  rw [qa_zero] at this
  have := pw_pos (-B)
  grind
theorem Rq.mul {B C : Int} {s t : Rat} (h : Rq B s) (k : Rq C t) : Rq (B + C) (s * t) := by
  refine ⟨?_, qa_mul_le h.2 k.2⟩
  rw [qa_mul, show -(B + C) = -B + -C by omega, pw_add]
  exact Rat.le_trans (Rat.mul_le_mul_of_nonneg_right h.1 (Rat.le_of_lt (pw_pos _))) (Rat.mul_le_mul_of_nonneg_left k.1 (qa_nn s))
theorem Rq.div {B C : Int} {s t : Rat} (h : Rq B s) (k : Rq C t) : Rq (B + C) (s / t) := by
  have h1 := qa_div_le k.ne h.2 k.1
  have h2 := (show Lo (-B) s from .inr h.1).div k.ne k.2
  refine ⟨?_, by rw [show B + C = B - -C by omega]; exact h1⟩
  have : s / t ≠ 0 := fun h0 => by
    have e : s / t * t = s := by have := k.ne; grind
    rw [h0, Rat.zero_mul] at e
    exact h.ne e.symm
  rw [show -(B + C) = -B - C by omega]
  exact h2.resolve_left this
theorem Rq.neg {B : Int} {t : Rat} (h : Rq B t) : Rq B (-t) := by unfold Rq; rw [qa_neg]; exact h
theorem Rq.near {B : Int} {k : Nat} {x t : Rat} (h : Rq B t) (n : Nr (Es k) x t) (hk : k ≤ 250) : Rq (B + 1) x := by
  have l1 : Es k ≤ 1 / 2 := Rat.le_trans (Es_le hk) (by decide +kernel)
  have h1 := n.lo
  have h2 := n.up
  have h3 := Rat.mul_le_mul_of_nonneg_right l1 (qa_nn t)
  have e1 := pw_pred (-B)
  have e2 := pw_succ B
  obtain ⟨a, b⟩ := h
  refine ⟨?_, ?_⟩
  · rw [show -(B + 1) = -B - 1 by omega]; grind
  · rw [e2]; grind
theorem Rq.mono {B C : Int} {t : Rat} (h : Rq B t) (hC : B ≤ C) : Rq C t := ⟨Rat.le_trans (pw_le (by omega)) h.1, Rat.le_trans h.2 (pw_le hC)⟩
/-- Narrowed. -/
theorem ns_dn {z : CF} {r : Bool} {k : Nat} {x t : Rat} {B : Int} (hx : W (mainP r z) x) (ho : W (othP r z) 0) (hn : Nr (Es k) x t) (ht : Rq B t) (hk : k ≤ 250) (hB : B ≤ 98) : Ns r (k + 2) t (dnC z) := by
  have hr := ht.near hn hk
  have hb : qa x ≤ pw 126 := Rat.le_trans hr.2 (pw_le (by omega))
  have h0 : qa (0 : Rat) ≤ pw 126 := by rw [qa_zero]; exact Rat.le_of_lt (pw_pos _)
  have fin : ∀ {x' o' : Rat}, V (mainP r (dnC z)) x' → V (othP r (dnC z)) o' → Rd x' x → Rd o' 0 → Ns r (k + 2) t (dnC z) := fun v1 v2 r1 r2 => by
    have e := r2.zero
    subst e
    refine ⟨_, v1, v2, ?_⟩
    have := (r1.es (.inr (Rat.le_trans (pw_le (by omega)) hr.1))).esT hn (by omega) hk
    rw [show 1 + k + 1 = k + 2 by omega] at this
    exact this
  cases r with
  | false =>
    obtain ⟨_, p', q', v1, v2, r1, r2⟩ := dnC_of (z := z) hx ho hb h0
    exact fin v1 v2 r1 r2
  | true =>
    obtain ⟨_, p', q', v1, v2, r1, r2⟩ := dnC_of (z := z) ho hx h0 hb
    exact fin v2 v1 r2 r1
theorem ns_up {z : CF} {r : Bool} {x : Rat} {B : Int} (hx : V (mainP r z) x) (ho : V (othP r z) 0) (hr : Rq B x) (hB : B ≤ 190) : W (mainP r (upC z)) x ∧ W (othP r (upC z)) 0 := by
  have hb : qa x ≤ pw 200 := Rat.le_trans hr.2 (pw_le (by omega))
  have h0 : qa (0 : Rat) ≤ pw 200 := by rw [qa_zero]; exact Rat.le_of_lt (pw_pos _)
  cases r with
  | false => exact (upC_of (z := z) hx ho hb h0).2
  | true => exact (upC_of (z := z) ho hx h0 hb).2.symm
theorem V0_md : Md 126 (0 : Rat) := .inl rfl
theorem nr_2 {z y x : Rat} (h : Nr eD z y) (k : Nr eD y x) : Nr (Es 3) z x := by
  have := h.esE.esT k.esE (by omega) (by omega)
  exact this.es (by omega)
/-- A product. -/
theorem ns_mul {q r : Bool} {k l : Nat} {B C : Int} {s t : Rat} {n z : CF} (hn : Ns q k s n) (hs : Rq B s) (hz : Ns r l t z) (ht : Rq C t) (hk : k ≤ 100) (hl : l ≤ 100) (hB : B ≤ 48) (hC : C ≤ 48) (hB0 : 0 ≤ B) (hC0 : 0 ≤ C) :
    Ns (q ^^ r) (k + l + 7) (if q && r then -(s * t) else s * t) (sMul n z) := by
  obtain ⟨v, v1, v2, nv⟩ := hn
  obtain ⟨x, x1, x2, nx⟩ := hz
  have rv := hs.near nv (by omega)
  have rx := ht.near nx (by omega)
  obtain ⟨w1, w2⟩ := ns_up v1 v2 rv (by omega)
  obtain ⟨w3, w4⟩ := ns_up x1 x2 rx (by omega)
  have mv : Md 126 v := V_md v1 (Rat.le_trans rv.2 (pw_le (by omega)))
  have mx : Md 126 x := V_md x1 (Rat.le_trans rx.2 (pw_le (by omega)))
  have hR : Rq (B + C) (s * t) := hs.mul ht
  have np : Nr (Es (k + l + 1)) (v * x) (s * t) := nv.esM nx (by omega) (by omega)
  -- what comes of it, and what is left
  have pos : ∀ {p : Rat}, Nr (Es 3) p (v * x) → Nr (Es (k + l + 5)) p (s * t) := fun h => by
    have := h.esT np (by omega) (by omega)
    exact this.es (by omega)
  have neg : ∀ {p : Rat}, Nr (Es 3) p (-(v * x)) → Nr (Es (k + l + 5)) p (-(s * t)) := fun {p} h => by
    have h1 : Nr (Es 3) (-p) (v * x) := by
      unfold Nr at *
      rw [show -p - v * x = -(p - -(v * x)) by grind, qa_neg]
      rw [qa_neg] at h
      exact h
    have h2 := pos h1
    unfold Nr at *
    rw [show p - -(s * t) = -(-p - s * t) by grind, qa_neg, qa_neg]
    exact h2
  have hsm : sMul n z = dnC (wMul (upC n) (upC z)) := rfl
  rw [hsm]
  cases q with
  | false =>
    have w1 : W (upC n).1 v := w1
    have w2 : W (upC n).2 0 := w2
    cases r with
    | false =>
      have w3 : W (upC z).1 x := w3
      have w4 : W (upC z).2 0 := w4
      obtain ⟨re, im, p, q, e, hp, hq, A, B', C', E, rA, rB, rp, rC, rE, rq, _, _⟩ := mul_Mu w1 w2 w3 w4 mv V0_md mx V0_md (by omega)
      rw [wMul_of e]
      have hB := rB.zz (Rat.mul_zero 0)
      have hC := rC.zz (Rat.mul_zero v)
      have hE := rE.zz (Rat.zero_mul x)
      subst hB hC hE
      rw [show A + -0 = A by grind] at rp
      have hq0 := rq.zz (by grind)
      subst hq0
      exact ns_dn (r := false) hp hq (pos (nr_2 rp rA)) hR (by omega) (by omega)
    | true =>
      have w3 : W (upC z).2 x := w3
      have w4 : W (upC z).1 0 := w4
      obtain ⟨re, im, p, q, e, hp, hq, A, B', C', E, rA, rB, rp, rC, rE, rq, _, _⟩ := mul_Mu w1 w2 w4 w3 mv V0_md V0_md mx (by omega)
      rw [wMul_of e]
      have hA := rA.zz (Rat.mul_zero v)
      have hB := rB.zz (Rat.zero_mul x)
      have hE := rE.zz (Rat.mul_zero 0)
      subst hA hB hE
      have hp0 := rp.zz (by grind)
      subst hp0
      rw [show C' + 0 = C' by grind] at rq
      exact ns_dn (r := true) hq hp (pos (nr_2 rq rC)) hR (by omega) (by omega)
  | true =>
    have w1 : W (upC n).2 v := w1
    have w2 : W (upC n).1 0 := w2
    cases r with
    | false =>
      have w3 : W (upC z).1 x := w3
      have w4 : W (upC z).2 0 := w4
      obtain ⟨re, im, p, q, e, hp, hq, A, B', C', E, rA, rB, rp, rC, rE, rq, _, _⟩ := mul_Mu w2 w1 w3 w4 V0_md mv mx V0_md (by omega)
      rw [wMul_of e]
      have hA := rA.zz (Rat.zero_mul x)
      have hB := rB.zz (Rat.mul_zero v)
      have hC := rC.zz (Rat.mul_zero 0)
      subst hA hB hC
      have hp0 := rp.zz (by grind)
      subst hp0
      rw [show 0 + E = E by grind] at rq
      exact ns_dn (r := true) hq hp (pos (nr_2 rq rE)) hR (by omega) (by omega)
    | true =>
      have w3 : W (upC z).2 x := w3
      have w4 : W (upC z).1 0 := w4
      obtain ⟨re, im, p, q, e, hp, hq, A, B', C', E, rA, rB, rp, rC, rE, rq, _, _⟩ := mul_Mu w2 w1 w4 w3 V0_md mv V0_md mx (by omega)
      rw [wMul_of e]
      have hA := rA.zz (Rat.mul_zero 0)
      have hC := rC.zz (Rat.zero_mul x)
      have hE := rE.zz (Rat.mul_zero v)
      subst hA hC hE
      rw [show 0 + -B' = -B' by grind] at rp
      have hq0 := rq.zz (by grind)
      subst hq0
      exact ns_dn (r := false) hp hq (neg (nr_2 rp rB.neg)) hR.neg (by omega) (by omega)
/-- Over a real number. -/
theorem ns_quo {r : Bool} {k l : Nat} {B C : Int} {s t : Rat} {n z : CF} (hn : Ns false k s n) (hs : Rq B s) (hz : Ns r l t z) (ht : Rq C t) (hk : k ≤ 100) (hl : l ≤ 100) (hB : B ≤ 48) (hC : C ≤ 48) (hB0 : 0 ≤ B) (hC0 : 0 ≤ C) :
    Ns r (l + k + 12) (t / s) (sQuo z n) := by
  obtain ⟨v, v1, v2, nv⟩ := hn
  obtain ⟨x, x1, x2, nx⟩ := hz
  have rv := hs.near nv (by omega)
  have rx := ht.near nx (by omega)
  obtain ⟨w1, w2⟩ := ns_up v1 v2 rv (by omega)
  have w1 : W (upC n).1 v := w1
  have w2 : W (upC n).2 0 := w2
  obtain ⟨w3, w4⟩ := ns_up x1 x2 rx (by omega)
  have mv : Md 126 v := V_md v1 (Rat.le_trans rv.2 (pw_le (by omega)))
  have mx : Md 126 x := V_md x1 (Rat.le_trans rx.2 (pw_le (by omega)))
  have hR : Rq (C + B) (t / s) := ht.div hs
  have np : Nr (Es (l + k + 1)) (x / v) (t / s) := nx.esD nv hs.ne (by omega) (by omega)
  have h0 : ¬ (v = 0 ∧ (0 : Rat) = 0) := fun h => rv.ne h.1
  -- the steps, over a real number
  have steps : ∀ {a b p q : Rat}, (Sm a b v 0 p q ∨ Sm b (-a) 0 (-v) p q) → ∃ den n1 n2, Nr eD den v ∧ Nr eD n1 a ∧ Nr eD n2 b ∧ Nr eD p (n1 / den) ∧ Nr eD q (n2 / den) := by
    rintro a b p q (hm | hm)
    · obtain ⟨ρ, rd, den, β, n1, α, n2, r1, r2, r3, r4, r5, r6, r7, r8, r9, _, _, _, hc⟩ := hm
      have hρ : ρ = 0 := r1.zz (by rw [Rat.div_def, Rat.zero_mul])
      subst hρ
      have hrd := r2.zz (Rat.zero_mul 0)
      have hβ := r4.zz (Rat.mul_zero b)
      have hα := r7.zz (Rat.mul_zero a)
      subst hrd hβ hα
      rw [show v + 0 = v by grind] at r3
      rw [show a + 0 = a by grind] at r5
      rw [show b + -0 = b by grind] at r8
      exact ⟨den, n1, n2, r3, r5, r8, r6, r9⟩
    · obtain ⟨_, _, _, _, _, _, _, _, _, _, _, _, _, _, _, _, _, _, _, hc⟩ := hm
      exact absurd rfl hc
  have main : ∀ {den n1 p : Rat}, Nr eD den v → Nr eD n1 x → Nr eD p (n1 / den) → Nr (Es (l + k + 10)) p (t / s) := fun a b c => by
    have h1 := b.esE.esD a.esE rv.ne (by omega) (by omega)
    have h2 := c.esE.esT h1 (by omega) (by omega)
    exact (h2.esT np (by omega) (by omega)).es (by omega)
  have zero : ∀ {den n1 p : Rat}, Nr eD n1 0 → Nr eD p (n1 / den) → p = 0 := fun b c => by
    have h1 := b.zero
    subst h1
    exact c.zz (by rw [Rat.div_def, Rat.zero_mul])
  have hsm : sQuo z n = dnC (wQuo (upC z) (upC n)) := rfl
  rw [hsm]
  cases r with
  | false =>
    have w3 : W (upC z).1 x := w3
    have w4 : W (upC z).2 0 := w4
    obtain ⟨e, f, p, q, hQ, hp, hq, hm⟩ := quo_Sm w3 w4 w1 w2 mx V0_md mv V0_md h0 (by omega) (by omega) (by omega) (by omega)
    rw [wQuo_of hQ]
    obtain ⟨den, n1, n2, g1, g2, g3, g4, g5⟩ := steps hm
    have hq0 := zero g3 g5
    subst hq0
    exact ns_dn (r := false) hp hq (main g1 g2 g4) hR (by omega) (by omega)
  | true =>
    have w3 : W (upC z).2 x := w3
    have w4 : W (upC z).1 0 := w4
    obtain ⟨e, f, p, q, hQ, hp, hq, hm⟩ := quo_Sm w4 w3 w1 w2 V0_md mx mv V0_md h0 (by omega) (by omega) (by omega) (by omega)
    rw [wQuo_of hQ]
    obtain ⟨den, n1, n2, g1, g2, g3, g4, g5⟩ := steps hm
    have hp0 := zero g2 g4
    subst hp0
    exact ns_dn (r := true) hq hp (main g1 g3 g5) hR (by omega) (by omega)
theorem ns_neg {r : Bool} {k : Nat} {t : Rat} {z : CF} (h : Ns r k t z) : Ns r k (-t) (ngS z) := by
  obtain ⟨x, v1, v2, n⟩ := h
  have e0 : -(0 : Rat) = 0 := by grind
  have hn : Nr (Es k) (-x) (-t) := by
    unfold Nr at *
    rw [show -x - -t = -(x - t) by grind, qa_neg, qa_neg]
    exact n
  have v1' := V_neg v1
  have v2' := V_neg v2
  rw [e0] at v2'
  refine ⟨-x, ?_, ?_, hn⟩
  · cases r <;> exact v1'
  · cases r <;> exact v2'
theorem Ns.mono {r : Bool} {k l : Nat} {t : Rat} {z : CF} (h : Ns r k t z) (hl : k ≤ l) : Ns r l t z := by
  obtain ⟨x, v1, v2, n⟩ := h
  exact ⟨x, v1, v2, n.es hl⟩
theorem iS_ns : Ns true 0 1 iS := ⟨1, one_V, zero_V, by
  unfold Nr
  rw [show (1 : Rat) - 1 = 0 by grind, qa_zero]
  exact Rat.mul_nonneg (Es_nn 0) (qa_nn 1)⟩
theorem oneS_ns : Ns false 0 1 oneS := ⟨1, one_V, zero_V, by
  unfold Nr
  rw [show (1 : Rat) - 1 = 0 by grind, qa_zero]
  exact Rat.mul_nonneg (Es_nn 0) (qa_nn 1)⟩
theorem rq_one : Rq 0 1 := by unfold Rq; decide +kernel
end Go.Sx

/- Clear films in 32 bits, near the wide ones. -/
namespace Go.Sx
open Go Ieee
set_option linter.unusedVariables false
set_option linter.unusedSimpArgs false

theorem rq_sg {B : Int} {X : Rat} (σ : Bool) (h : Rg B X) : Rq B (sg σ X) := by
  unfold Rq
  rw [qa_sg σ (Rat.le_of_lt h.pos)]
  exact h
theorem s_run {n : Nat → CF} {N : Nat → Rat} {qt : Nat → Int} {b : CF} {bX : Rat} {L : Nat} (hL : L ≤ 4) (hn : ∀ k, k < L → Ns false 1 (N k) (n k) ∧ Rg 7 (N k)) (hb : Ns false 1 bX b) (hbR : Rg 7 bX) :
    ∀ k, k ≤ L → ∃ r σ, Ns r (20 * k + 1) (sg σ (xRun N qt bX k).1) (sRun n qt b k).1 ∧ Ns r (20 * k + 1) (sg σ (xRun N qt bX k).2) (sRun n qt b k).2 ∧ Rg (7 * k + 7) (xRun N qt bX k).1 ∧ Rg (7 * k + 7) (xRun N qt bX k).2
  | 0, _ => ⟨false, false, oneS_ns.mono (by omega), hb, rg_one.mono (by omega), hbR.mono (by omega)⟩
  | k + 1, hk => by
    obtain ⟨r, σ, h1, h2, g1, g2⟩ := s_run (qt := qt) hL hn hb hbR k (by omega)
    obtain ⟨s1, s2⟩ := hn k (by omega)
    have rN : Rq 7 (N k) := rq_sg false s2
    have key : ∃ r' σ', Ns r' (20 * k + 21) (sg σ' (xRun N qt bX (k + 1)).1) (if qt k % 2 = 1 then sQuo (sMul iS (sRun n qt b k).2) (n k) else (sRun n qt b k).1) ∧ Ns r' (20 * k + 21) (sg σ' (xRun N qt bX (k + 1)).2) (if qt k % 2 = 1 then sMul (sMul iS (n k)) (sRun n qt b k).1 else (sRun n qt b k).2) ∧
        Rg (7 * k + 14) (xRun N qt bX (k + 1)).1 ∧ Rg (7 * k + 14) (xRun N qt bX (k + 1)).2 := by
      by_cases ho : qt k % 2 = 1
      · simp only [xRun, if_pos ho]
        have i1 := ns_mul iS_ns rq_one h2 (rq_sg σ g2) (by omega) (by omega) (by omega) (by omega) (by omega) (by omega)
        have ri1 : Rq (7 * k + 7) (if (true && r) = true then -(1 * sg σ (xRun N qt bX k).2) else 1 * sg σ (xRun N qt bX k).2) := by
          have := rq_sg σ g2
          rw [Rat.one_mul]
          split
          · exact this.neg
          · exact this
        have q1 := ns_quo s1 rN i1 ri1 (by omega) (by omega) (by omega) (by omega) (by omega) (by omega)
        have i2 := ns_mul iS_ns rq_one s1 rN (by omega) (by omega) (by omega) (by omega) (by omega) (by omega)
        have e0 : (if (true && false) = true then -(1 * N k) else 1 * N k) = N k := by rw [Rat.one_mul]; rfl
        rw [e0] at i2
        have q2 := ns_mul i2 rN h1 (rq_sg σ g1) (by omega) (by omega) (by omega) (by omega) (by omega) (by omega)
        have e1 : (true ^^ r) = !r := by cases r <;> rfl
        have e1' : ((true ^^ false) ^^ r) = !r := by cases r <;> rfl
        rw [e1] at q1
        rw [e1'] at q2
        have e3 : (if (true && r) = true then -(1 * sg σ (xRun N qt bX k).2) else 1 * sg σ (xRun N qt bX k).2) / N k = sg (σ ^^ r) ((xRun N qt bX k).2 / N k) := by
          rw [Rat.one_mul, Rat.div_def, Rat.div_def]
          unfold sg
          cases r <;> cases σ <;> simp <;> grind
        have e4 : (if ((true ^^ false) && r) = true then -(N k * sg σ (xRun N qt bX k).1) else N k * sg σ (xRun N qt bX k).1) = sg (σ ^^ r) (N k * (xRun N qt bX k).1) := by
          unfold sg
          cases r <;> cases σ <;> simp <;> grind
        rw [e3] at q1
        rw [e4] at q2
        exact ⟨!r, σ ^^ r, q1.mono (by omega), q2.mono (by omega), (g2.div s2).mono (by omega), (s2.mul g1).mono (by omega)⟩
      · simp only [xRun, if_neg ho]
        exact ⟨r, σ, h1.mono (by omega), h2.mono (by omega), g1.mono (by omega), g2.mono (by omega)⟩
    obtain ⟨r', σ', a1, a2, b1, b2⟩ := key
    have e8 : 20 * (k + 1) + 1 = 20 * k + 21 := by omega
    rw [e8]
    have hB : (7 * ((k + 1 : Nat) : Int) + 7) = 7 * k + 14 := by omega
    rw [hB]
    show ∃ r σ, Ns r _ _ (sStep (n k) (qt k) (sRun n qt b k).1 (sRun n qt b k).2).1 ∧ Ns r _ _ (sStep (n k) (qt k) (sRun n qt b k).1 (sRun n qt b k).2).2 ∧ _
    unfold sStep
    dsimp only
    by_cases h2q : 2 ≤ qt k
    · rw [if_pos h2q]
      have c1 := ns_neg a1
      have c2 := ns_neg a2
      rw [← sg_not] at c1 c2
      exact ⟨r', !σ', c1, c2, b1, b2⟩
    · rw [if_neg h2q]
      exact ⟨r', σ', a1, a2, b1, b2⟩
theorem ns_ends {r : Bool} {d q : CF} {x y : Rat} (hd : V (mainP r d) x) (hd0 : V (othP r d) 0) (hq : V (mainP r q) y) (hq0 : V (othP r q) 0) (h1 : qa (x - y) ≤ pw 126) (h2 : qa (x + y) ≤ pw 126) :
    (∃ t, V (mainP r (sSub d q)) t ∧ V (othP r (sSub d q)) 0 ∧ Rd t (x - y)) ∧ ∃ b, V (mainP r (sAdd d q)) b ∧ V (othP r (sAdd d q)) 0 ∧ Rd b (x + y) := by
  have z1 : (0 : Rat) - 0 = 0 := by grind
  have z2 : (0 : Rat) + 0 = 0 := by grind
  have z0 : qa (0 : Rat) ≤ pw 126 := by rw [qa_zero]; exact Rat.le_of_lt (pw_pos _)
  obtain ⟨w1, t, e1, v1, r1⟩ := V_sub hd hq h1
  obtain ⟨w2, o1, e2, v2, r2⟩ := V_sub hd0 hq0 (by rw [z1]; exact z0)
  obtain ⟨w3, b, e3, v3, r3⟩ := V_add hd hq h2
  obtain ⟨w4, o2, e4, v4, r4⟩ := V_add hd0 hq0 (by rw [z2]; exact z0)
  rw [z1] at r2
  rw [z2] at r4
  have c1 := r2.zero
  have c2 := r4.zero
  subst c1 c2
  cases r with
  | false =>
    have hS : sSub d q = (w1, w2) := by unfold sSub; rw [show floatBits .sub .f32 d.1 q.1 = some w1 from e1, show floatBits .sub .f32 d.2 q.2 = some w2 from e2]; rfl
    have hA : sAdd d q = (w3, w4) := by unfold sAdd; rw [show floatBits .add .f32 d.1 q.1 = some w3 from e3, show floatBits .add .f32 d.2 q.2 = some w4 from e4]; rfl
    rw [hS, hA]
    exact ⟨⟨t, v1, v2, r1⟩, b, v3, v4, r3⟩
  | true =>
    have hS : sSub d q = (w2, w1) := by unfold sSub; rw [show floatBits .sub .f32 d.2 q.2 = some w1 from e1, show floatBits .sub .f32 d.1 q.1 = some w2 from e2]; rfl
    have hA : sAdd d q = (w4, w3) := by unfold sAdd; rw [show floatBits .add .f32 d.2 q.2 = some w3 from e3, show floatBits .add .f32 d.1 q.1 = some w4 from e4]; rfl
    rw [hS, hA]
    exact ⟨⟨t, v1, v2, r1⟩, b, v3, v4, r3⟩
theorem sm_real {a b v p q : Rat} (hm : Sm a b v 0 p q) : ∃ den n1 n2, Nr eD den v ∧ Nr eD n1 a ∧ Nr eD n2 b ∧ Nr eD p (n1 / den) ∧ Nr eD q (n2 / den) := by
  obtain ⟨ρ, rd, den, β, n1, α, n2, r1, r2, r3, r4, r5, r6, r7, r8, r9, _, _, _, hc⟩ := hm
  have hρ : ρ = 0 := r1.zz (by rw [Rat.div_def, Rat.zero_mul])
  subst hρ
  have hrd := r2.zz (Rat.zero_mul 0)
  have hβ := r4.zz (Rat.mul_zero b)
  have hα := r7.zz (Rat.mul_zero a)
  subst hrd hβ hα
  rw [show v + 0 = v by grind] at r3
  rw [show a + 0 = a by grind] at r5
  rw [show b + -0 = b by grind] at r8
  exact ⟨den, n1, n2, r3, r5, r8, r6, r9⟩
/-- A quotient of two real, or two imaginary, numbers. -/
theorem ns_over {r : Bool} {top bot : CF} {t b : Rat} (ht : V (mainP r top) t) (ht0 : V (othP r top) 0) (hb : V (mainP r bot) b) (hb0 : V (othP r bot) 0) (bt : qa t ≤ pw 50) (bb : qa b ≤ pw 50) (lb : pw (-50) ≤ qa b) {v : Value} (hv : SingRes top bot v) :
    ∃ e f x, v = .complex .f32 e f ∧ V e x ∧ V f 0 ∧ ∃ den n1 p, Nr eD n1 t ∧ Nr eD den b ∧ Nr eD p (n1 / den) ∧ Rd x p := by
  have b0 : b ≠ 0 := by
    rintro rfl
    rw [qa_zero] at lb
    have := pw_pos (-50)
    grind
  have z200 : qa (0 : Rat) ≤ pw 200 := by rw [qa_zero]; exact Rat.le_of_lt (pw_pos _)
  have z126 : qa (0 : Rat) ≤ pw 126 := by rw [qa_zero]; exact Rat.le_of_lt (pw_pos _)
  have up : ∀ {z : Rat}, qa z ≤ pw 50 → qa z ≤ pw 200 := fun h => Rat.le_trans h (pw_le (by omega))
  have mt : Md 126 t := V_md ht (Rat.le_trans bt (pw_le (by omega)))
  have mb : Md 126 b := V_md hb (Rat.le_trans bb (pw_le (by omega)))
  have ne : -(0 : Rat) = 0 := by grind
  -- both ways
  have fin : ∀ {e f : Nat} {p q : Rat}, cConvBits .f32 top.1 top.2 .f64 = some (upC top) → cConvBits .f32 bot.1 bot.2 .f64 = some (upC bot) → cQuoBits (upC top).1 (upC top).2 (upC bot).1 (upC bot).2 = some (e, f) → W e p → W f q → Sm t 0 b 0 p q →
      ∃ e f x, v = .complex .f32 e f ∧ V e x ∧ V f 0 ∧ ∃ den n1 p, Nr eD n1 t ∧ Nr eD den b ∧ Nr eD p (n1 / den) ∧ Rd x p := by
    intro e f p q c1 c2 hQ hp hq hm
    obtain ⟨den, n1, n2, g1, g2, g3, g4, g5⟩ := sm_real hm
    have h2 := g3.zero
    subst h2
    have hq0 : q = 0 := g5.zz (by rw [Rat.div_def, Rat.zero_mul])
    subst hq0
    have hd0 := g1.nz b0
    have u1 := g2.up' bt
    have l1 := (g1.lo' (.inr lb : Lo (-50) b)).resolve_left hd0
    have u2 := g4.up' (qa_div_le hd0 u1 l1)
    obtain ⟨hc, p', q', V1, V2, r1, r2⟩ := dnC_of (z := (e, f)) hp hq (Rat.le_trans u2 (pw_le (by omega))) z126
    have h3 := r2.zero
    subst h3
    obtain ⟨P, hv⟩ := hv
    exact ⟨_, _, p', may_squo c1 c2 hQ hc hv, V1, V2, den, n1, p, g2, g1, g4, r1⟩
  cases r with
  | false =>
    obtain ⟨c1, w1, w2⟩ := upC_of (z := top) ht ht0 (up bt) z200
    obtain ⟨c2, w3, w4⟩ := upC_of (z := bot) hb hb0 (up bb) z200
    obtain ⟨e, f, p, q, hQ, hp, hq, hm⟩ := quo_Sm w1 w2 w3 w4 mt V0_md mb V0_md (fun h => b0 h.1) (by omega) (by omega) (by omega) (by omega)
    refine fin c1 c2 hQ hp hq (hm.resolve_right fun h => ?_)
    obtain ⟨_, _, _, _, _, _, _, _, _, _, _, _, _, _, _, _, _, _, _, hc⟩ := h
    exact hc rfl
  | true =>
    obtain ⟨c1, w1, w2⟩ := upC_of (z := top) ht0 ht z200 (up bt)
    obtain ⟨c2, w3, w4⟩ := upC_of (z := bot) hb0 hb z200 (up bb)
    obtain ⟨e, f, p, q, hQ, hp, hq, hm⟩ := quo_Sm w1 w2 w3 w4 V0_md mt V0_md mb (fun h => b0 h.2) (by omega) (by omega) (by omega) (by omega)
    rw [ne] at hm
    refine fin c1 c2 hQ hp hq (hm.resolve_left fun h => ?_)
    obtain ⟨_, _, _, _, _, _, _, _, _, _, _, _, _, _, _, _, _, _, _, hc⟩ := h
    exact hc rfl
/-- **The answer in 32 bits is near the exact one.** -/
theorem s_near {n : Nat → CF} {N : Nat → Rat} {qt : Nat → Int} {a b : CF} {aX bX : Rat} {L : Nat} (hL : L ≤ 4) (hn : ∀ k, k < L → Ns false 1 (N k) (n k) ∧ Rg 7 (N k)) (ha : Ns false 1 aX a) (haR : Rg 7 aX) (hb : Ns false 1 bX b) (hbR : Rg 7 bX)
    {v : Value} (hv : SingRes (sSub (sMul a (sRun n qt b L).1) (sRun n qt b L).2) (sAdd (sMul a (sRun n qt b L).1) (sRun n qt b L).2) v) : ∃ e f x, v = .complex .f32 e f ∧ V e x ∧ V f 0 ∧
      qa (x - (aX * (xRun N qt bX L).1 - (xRun N qt bX L).2) / (aX * (xRun N qt bX L).1 + (xRun N qt bX L).2)) ≤ pw (-12) := by
  obtain ⟨r, σ, hp, hq, gp, gq⟩ := s_run (qt := qt) hL hn hb hbR L (Nat.le_refl _)
  have hd := ns_mul ha (rq_sg false haR) hp (rq_sg σ gp) (by omega) (by omega) (by omega) (by omega) (by omega) (by omega)
  rw [show (false ^^ r) = r by cases r <;> rfl] at hd
  have e1 : (if (false && r) = true then -(sg false aX * sg σ (xRun N qt bX L).1) else sg false aX * sg σ (xRun N qt bX L).1) = sg σ (aX * (xRun N qt bX L).1) := by
    unfold sg
    cases σ <;> simp <;> grind
  have gd : Rg 42 (aX * (xRun N qt bX L).1) := (haR.mul gp).mono (by omega)
  have gq : Rg 42 (xRun N qt bX L).2 := gq.mono (by omega)
  obtain ⟨x, d1, d2, nx⟩ := hd
  obtain ⟨y, q1, q2, ny⟩ := hq
  have e0 : sg false aX = aX := rfl
  rw [← e0] at e1
  have nx : Nr (Es 90) x (sg σ (aX * (xRun N qt bX L).1)) := by
    rw [e0] at e1
    have nx' : Nr (Es (1 + (20 * L + 1) + 7)) x (if (false && r) = true then -(aX * sg σ (xRun N qt bX L).1) else aX * sg σ (xRun N qt bX L).1) := nx
    have e2 : (if (false && r) = true then -(aX * sg σ (xRun N qt bX L).1) else aX * sg σ (xRun N qt bX L).1) = sg σ (aX * (xRun N qt bX L).1) := e1
    rw [e2] at nx'
    exact nx'.es (by omega)
  have ny : Nr (Es 90) y (sg σ (xRun N qt bX L).2) := ny.es (by omega)
  generalize aX * (xRun N qt bX L).1 = D at *
  generalize (xRun N qt bX L).2 = Q at *
  have pD := gd.pos
  have pQ := gq.pos
  have hs : 0 ≤ sg σ D * sg σ Q := by
    have := Rat.mul_pos pD pQ
    unfold sg
    cases σ <;> simp <;> grind
  have eT : (sg σ D - sg σ Q) / (sg σ D + sg σ Q) = (D - Q) / (D + Q) := by
    have h0 : D + Q ≠ 0 := by grind
    unfold sg
    cases σ <;> simp
    grind
  have rx := (rq_sg σ gd).near nx (by omega)
  have ry := (rq_sg σ gq).near ny (by omega)
  have lo := sum_lo hs nx ny
  have l0 : pw (-42) ≤ qa (sg σ D + sg σ Q) := by
    have h1 := qa_same hs
    have h2 := (rq_sg σ gd).1
    have h3 := qa_nn (sg σ Q)
    grind
  have lxy : pw (-43) ≤ qa (x + y) := by
    have h := pw_pred (-42)
    rw [show (-42 : Int) - 1 = -43 from rfl] at h
    grind
  have u1 : qa (x + y) ≤ pw 44 := add_le rx.2 ry.2
  have u2 : qa (x - y) ≤ pw 44 := by
    have := add_le rx.2 (show qa (-y) ≤ pw (42 + 1) by rw [qa_neg]; exact ry.2)
    rw [show x + -y = x - y by grind] at this
    exact this
  obtain ⟨⟨t, t1, t2, rt⟩, b', b1, b2, rb⟩ := ns_ends d1 d2 q1 q2 (Rat.le_trans u2 (pw_le (by omega))) (Rat.le_trans u1 (pw_le (by omega)))
  have two : ∀ {z w : Rat}, Rd z w → qa w ≤ pw 44 → qa z ≤ pw 50 := fun h hw => by
    have h1 := h.two
    have h2 := pw_succ 44
    have h3 : pw (44 + 1) ≤ pw 50 := pw_le (by omega)
    grind
  have nb := rb.nz (Rat.le_trans (pw_le (by omega)) lxy)
  have lb : pw (-50) ≤ qa b' := by
    have h1 := rb.half nb
    have h2 := pw_pred (-43)
    have h3 : pw (-50) ≤ pw (-43 - 1) := pw_le (by omega)
    grind
  obtain ⟨e, f, z, hve, V1, V2, den, n1, p, g1, g2, g3, g4⟩ := ns_over t1 t2 b1 b2 (two rt u2) (two rb u1) lb hv
  refine ⟨e, f, z, hve, V1, V2, ?_⟩
  have := s_ends hs (Rat.le_trans (pw_le (by omega)) l0) nx ny rb rt g1 g2 g3 g4
  rw [eT] at this
  exact this
end Go.Sx

/- The law on single films, but for the walk. -/
namespace Go.Sx
open Go Ieee
set_option linter.unusedVariables false
set_option linter.unusedSimpArgs false

def thou : Nat := 4562254508917369340
theorem thou_read : D.read thou = .number false 4611686018427388 (-62) := by decide +kernel
theorem thou_lo : pw (-10) < mg 4611686018427388 (-62) := by
  unfold mg
  rw [show (-10 : Int) = 52 + -62 by decide, pw_add]
  refine Rat.mul_lt_mul_of_pos_right ?_ (pw_pos _)
  rw [show (52 : Int) = ((52 : Nat) : Int) from rfl, pw_nat]
  exact_mod_cast (by decide : 2 ^ 52 < 4611686018427388)
theorem under_thou {w : Nat} (h : Bd (-10) w) : FloatKind.f64.format.order w thou = some .lt := by
  obtain ⟨s, m, e, r, b⟩ := h
  refine order_lt r thou_read ?_
  have h0 := mg_nn m e
  have h1 := thou_lo
  unfold sg
  cases s <;> simp only [Bool.false_eq_true, if_false, if_true] <;> grind
/-- Both differences are under the bound. -/
def Near3 (x y : Nat) : Prop := (∃ w, floatBits .sub .f64 x y = some w ∧ FloatKind.f64.format.order w thou = some .lt) ∧ ∃ w, floatBits .sub .f64 y x = some w ∧ FloatKind.f64.format.order w thou = some .lt
theorem near3 {x y : Nat} {a b : Rat} (hx : W x a) (hy : W y b) (h : qa (a - b) ≤ pw (-11)) : Near3 x y := by
  obtain ⟨s, m, i, r1, rfl⟩ := hx
  obtain ⟨t, n, j, r2, rfl⟩ := hy
  have h1 := qa_le (sg s (mg m i) - sg t (mg n j))
  obtain ⟨w, hw, b⟩ := sub_small r1 r2 (k := -11) (by grind) (by grind) (by omega) (by omega)
  obtain ⟨w', hw', b'⟩ := sub_small r2 r1 (k := -11) (by grind) (by grind) (by omega) (by omega)
  exact ⟨⟨w, hw, under_thou b⟩, w', hw', under_thou b'⟩
theorem clear_ns {v : Q} (h : clearI v) (hs : small v) : Ns false 1 (reR v) (dnC (idxF v)) := by
  obtain ⟨_, x, y, V1, V2, n1, n2, _⟩ := idx_near h.1 hs
  rw [clear_im h] at n2
  have := n2.zero
  subst this
  exact ⟨x, V1, V2, by rw [Es_one]; exact n1⟩
theorem zr_W {w : Nat} (h : Zr w) : W w 0 := by
  obtain ⟨s, e, r⟩ := h
  exact ⟨s, 0, e, r, by rw [mg_zero, sg_zero]⟩
/-- What a clear film gives in 32 bits, beside what it gives in 64. -/
theorem single_law {x : Nat → Q} {qt : Nat → Int} {L : Nat} {a b : Q} {v w : Value} (hL : L ≤ 4) (hx : ∀ k, k < L → clearI (x k) ∧ small (x k)) (ha : clearI a) (sa : small a) (hb : clearI b) (sb : small b)
    (hv : SingRes (sSub (sMul (dnC (idxF a)) (sRun (fun k => dnC (idxF (x (L - 1 - k)))) (fun k => qt (L - 1 - k)) (dnC (idxF b)) L).1) (sRun (fun k => dnC (idxF (x (L - 1 - k)))) (fun k => qt (L - 1 - k)) (dnC (idxF b)) L).2)
      (sAdd (sMul (dnC (idxF a)) (sRun (fun k => dnC (idxF (x (L - 1 - k)))) (fun k => qt (L - 1 - k)) (dnC (idxF b)) L).1) (sRun (fun k => dnC (idxF (x (L - 1 - k)))) (fun k => qt (L - 1 - k)) (dnC (idxF b)) L).2) v)
    (hw : WideRes (fun k => idxF (x (L - 1 - k))) (fun k => qt (L - 1 - k)) (idxF a) (idxF b) L w) :
    ∃ e f, v = .complex .f32 e f ∧ ∃ E F, cConvBits .f32 e f .f64 = some (E, F) ∧ ∃ g h, w = .complex .f64 g h ∧ Near3 E g ∧ Near3 F h := by
  obtain ⟨g, h, s, m, i, hwe, zh, rg, w1, w2⟩ := wide_near (N := fun k => reR (x (L - 1 - k))) (by omega) (fun k hk => ⟨clear_sh (hx _ (by omega)).1, clear_rg (hx _ (by omega)).1⟩) (clear_sh ha) (clear_rg ha) (clear_sh hb) (clear_rg hb) hw
  obtain ⟨e, f, z, hve, V1, V2, d⟩ := s_near (N := fun k => reR (x (L - 1 - k))) hL (fun k hk => ⟨clear_ns (hx _ (by omega)).1 (hx _ (by omega)).2, clear_rg (hx _ (by omega)).1⟩) (clear_ns ha sa) (clear_rg ha) (clear_ns hb sb) (clear_rg hb) hv
  obtain ⟨E, e1, W1⟩ := up_V V1 (Rat.le_trans (V_top V1) (pw_le (by omega)))
  obtain ⟨F, e2, W2⟩ := up_V V2 (Rat.le_trans (V_top V2) (pw_le (by omega)))
  refine ⟨e, f, hve, E, F, by unfold cConvBits; rw [e1, e2]; rfl, g, h, hwe, near3 W1 ⟨s, m, i, rg, rfl⟩ ?_, near3 W2 (zr_W zh) ?_⟩
  · generalize (reR a * (xRun (fun k => reR (x (L - 1 - k))) (fun k => qt (L - 1 - k)) (reR b) L).1 - (xRun (fun k => reR (x (L - 1 - k))) (fun k => qt (L - 1 - k)) (reR b) L).2) / (reR a * (xRun (fun k => reR (x (L - 1 - k))) (fun k => qt (L - 1 - k)) (reR b) L).1 + (xRun (fun k => reR (x (L - 1 - k))) (fun k => qt (L - 1 - k)) (reR b) L).2) = T at *
    have a1 := qa_le (z - T)
    have p1 : pw (-12) + pw (-34) ≤ pw (-11) := by decide +kernel
    refine qa_of ?_ ?_ <;> grind
  · rw [show (0 : Rat) - 0 = 0 by grind, qa_zero]
    exact Rat.le_of_lt (pw_pos _)
end Go.Sx


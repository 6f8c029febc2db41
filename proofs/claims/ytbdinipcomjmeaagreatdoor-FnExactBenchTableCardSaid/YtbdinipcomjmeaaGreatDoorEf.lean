import Derived.Test.YtbdinipcomjmeaaGreatDoorEe
import Derived.Lib.SplitLaws
import Derived.Lib.AtoiAll
import Derived.Lib.AtoiAllCases
import Derived.Lib.ItoaNum
import Derived.Lib.Join
import Derived.Lib.QuietBelow
import Derived.Lib.LaidTab
set_option linter.unusedVariables false
set_option linter.unusedSimpArgs false
namespace Go.Sx
open Go
set_option linter.unusedVariables false
set_option linter.unusedSimpArgs false
def tySpec (ts : List Ty) (sp : Spec) : Spec := fun ins K => sp ins fun outs => TypedL ts outs → K outs
theorem ConOK.tys {P : Program} {G : List (Nat × List Sc)} {f : Nat} {sig : Sig} {sp : Spec} (h : ConOK P G f sig sp) : ConOK P G f sig (tySpec sig.tout sp) := by
  intro w bs ins K g hs
  refine (h w bs ins _ g hs).mono ?_
  rintro e w' ⟨outs, bs', v, rfl, L⟩
  exact ⟨outs, bs', v, rfl, { post := L.post L.typed, typed := L.typed, len := L.len, old := L.old, new := L.new, nodup := L.nodup, res := L.res, blk := L.blk, rows := L.rows, os := L.os, tape := L.tape, output := L.output, size := L.size, frame := L.frame, owns := L.owns }⟩
theorem app_step {P : Program} {specs : List Spec} {env : List Value} {K : List Value → Prop} {c : Ex} {n : Nat} {src : Src} {r : List Evn} {xs ys : List Value} (hc : ev env c = .agg xs.toArray) (hs : src.vals env = ys) (hb : xs.length + ys.length ≤ 1099511627776)
    (h : ∀ a len cap, len ≤ 9223372036854775807 → len * n = xs.length + ys.length → evSat P specs r (env ++ [.slice a len cap, .agg (xs ++ ys).toArray]) K) : evSat P specs (.app c n src :: r) env K := by
  have e : ((ev env c).cells ++ (src.vals env).toArray) = (xs ++ ys).toArray := by rw [hc, hs]; simp [Value.cells]
  have e2 : (ev env c).cells.size = xs.length := by rw [hc]; simp [Value.cells]
  refine ⟨by rw [e2, hs]; exact hb, fun a len cap ht hl => ?_⟩
  rw [e]
  rw [e2, hs] at hl
  obtain ⟨⟨a', l', c', q, hq⟩, _⟩ := ht
  cases q
  exact h a len cap hq hl
theorem app_empty {P : Program} {specs : List Spec} {env : List Value} {K : List Value → Prop} {n : Nat} {r : List Evn} (hn : 0 < n) (h : ∀ a cap, evSat P specs r (env ++ [.slice a 0 cap, .agg #[]]) K) :
    evSat P specs (.app (.val (.agg #[])) n (.cells []) :: r) env K := by
  refine app_step (xs := []) (ys := []) rfl rfl (by simp) fun a len cap _ hl => ?_
  have h0 : len = 0 := (Nat.mul_eq_zero.1 (by simpa using hl)).elim id fun h => by omega
  subst h0
  exact h a cap
theorem evs_step {P : Program} {specs : List Spec} {l : List Evn} {t : Tr} {env : List Value} {N : List (List Value → Prop)} {K : List Value → Prop} (h : evSat P specs l env fun env' => sat P specs t env' N K) : sat P specs (.evs l t) env N K := h
theorem evs_nil {P : Program} {specs : List Spec} {env : List Value} {K : List Value → Prop} (h : K env) : evSat P specs [] env K := h
theorem call_step {P : Program} {specs : List Spec} {k n : Nat} {ins : List Ex} {r : List Evn} {env : List Value} {K : List Value → Prop} {sp : Spec} (hs : specs[k]? = some sp) (h : sp (ins.map (ev env)) fun outs => evSat P specs r (env ++ outs) K) : evSat P specs (.call k ins none n :: r) env K := by
  simp only [evSat, hs]
  exact h
end Go.Sx
namespace Go.Sx
open Go
set_option linter.unusedVariables false
set_option linter.unusedSimpArgs false
theorem oneQ_re : reR oneQ = 1 := by decide +kernel
theorem nilQ_re : reR nil1 = 0 := by decide +kernel
theorem mul_val {a b o : Nat → Q} (h : ∀ i, i < 4 → mulM a b i = some (o i)) : ∀ i, i < 4 → reR (o i) = mp (fun i => reR (a i)) (fun i => imR (a i)) (fun i => reR (b i)) (fun i => imR (b i)) i ∧
    imR (o i) = mq (fun i => reR (a i)) (fun i => imR (a i)) (fun i => reR (b i)) (fun i => imR (b i)) i ∧ validQ (o i) = true := by
  intro i hi
  obtain ⟨h1, h2, h3⟩ := mix_val (h i hi)
  exact ⟨h1, h2, h3⟩
def dre (p q : Nat → Rat) : Rat := (p 0 * p 3 - q 0 * q 3) - (p 1 * p 2 - q 1 * q 2)
def dim (p q : Nat → Rat) : Rat := (p 0 * q 3 + q 0 * p 3) - (p 1 * q 2 + q 1 * p 2)
end Go.Sx
namespace Go.Sx
open Go
set_option linter.unusedVariables false
set_option linter.unusedSimpArgs false
structure RM where
  p0 : Rat
  p1 : Rat
  p2 : Rat
  p3 : Rat
  q0 : Rat
  q1 : Rat
  q2 : Rat
  q3 : Rat
theorem RM.eq {a b : RM} (h0 : a.p0 = b.p0) (h1 : a.p1 = b.p1) (h2 : a.p2 = b.p2) (h3 : a.p3 = b.p3) (k0 : a.q0 = b.q0) (k1 : a.q1 = b.q1) (k2 : a.q2 = b.q2) (k3 : a.q3 = b.q3) : a = b := by
  cases a; cases b; simp_all
def RM.mul (a b : RM) : RM :=
  ⟨a.p0 * b.p0 - a.q0 * b.q0 + (a.p1 * b.p2 - a.q1 * b.q2), a.p0 * b.p1 - a.q0 * b.q1 + (a.p1 * b.p3 - a.q1 * b.q3),
   a.p2 * b.p0 - a.q2 * b.q0 + (a.p3 * b.p2 - a.q3 * b.q2), a.p2 * b.p1 - a.q2 * b.q1 + (a.p3 * b.p3 - a.q3 * b.q3),
   a.p0 * b.q0 + a.q0 * b.p0 + (a.p1 * b.q2 + a.q1 * b.p2), a.p0 * b.q1 + a.q0 * b.p1 + (a.p1 * b.q3 + a.q1 * b.p3),
   a.p2 * b.q0 + a.q2 * b.p0 + (a.p3 * b.q2 + a.q3 * b.p2), a.p2 * b.q1 + a.q2 * b.p1 + (a.p3 * b.q3 + a.q3 * b.p3)⟩
def RM.one : RM := ⟨1, 0, 0, 1, 0, 0, 0, 0⟩
def RM.sig (a : RM) : RM := ⟨a.p3, a.p1, a.p2, a.p0, a.q3, a.q1, a.q2, a.q0⟩
theorem RM.one_mul (a : RM) : RM.one.mul a = a := by
  cases a
  apply RM.eq <;> simp only [RM.mul, RM.one] <;> grind
theorem RM.mul_one (a : RM) : a.mul RM.one = a := by
  cases a
  apply RM.eq <;> simp only [RM.mul, RM.one] <;> grind
theorem RM.assoc (a b c : RM) : (a.mul b).mul c = a.mul (b.mul c) := by
  cases a; cases b; cases c
  apply RM.eq <;> simp only [RM.mul] <;> grind
def ofQ (m : Nat → Q) : RM := ⟨reR (m 0), reR (m 1), reR (m 2), reR (m 3), imR (m 0), imR (m 1), imR (m 2), imR (m 3)⟩
theorem ofQ_mul {a b o : Nat → Q} (h : ∀ i, i < 4 → mulM a b i = some (o i)) : ofQ o = (ofQ a).mul (ofQ b) := by
  have v := mul_val h
  exact RM.eq (v 0 (by omega)).1 (v 1 (by omega)).1 (v 2 (by omega)).1 (v 3 (by omega)).1 (v 0 (by omega)).2.1 (v 1 (by omega)).2.1 (v 2 (by omega)).2.1 (v 3 (by omega)).2.1
end Go.Sx
namespace Go.Sx
open Go
set_option linter.unusedVariables false
set_option linter.unusedSimpArgs false
def sgnI (n : Int) : Int := if n < 0 then -1 else if n > 0 then 1 else 0
def crossI (a b : Q) : Int := a.1 * b.2.2 - b.1 * a.2.2
def cmpF (a b : Q) : Int := if realQ a && realQ b then sgnI (crossI a b) else 0
theorem cross_pos {a b : Q} (ha : realQ a = true) (hb : realQ b = true) : (0 < crossI a b ↔ reR b < reR a) ∧ (crossI a b < 0 ↔ reR a < reR b) := by
  have h1 := valid_den (realQ_valid ha)
  have h2 := valid_den (realQ_valid hb)
  have p1 : (0 : Rat) < (a.2.2 : Rat) := by
    have : (0 : Int) < a.2.2 := by omega
    exact_mod_cast this
  have p2 : (0 : Rat) < (b.2.2 : Rat) := by
    have : (0 : Int) < b.2.2 := by omega
    exact_mod_cast this
  have key : ∀ x y : Q, (0 : Rat) < (x.2.2 : Rat) → (0 : Rat) < (y.2.2 : Rat) → (reR x < reR y ↔ x.1 * y.2.2 < y.1 * x.2.2) := by
    intro x y hx hy
    have hy0 : (y.2.2 : Rat) ≠ 0 := by grind
    unfold reR
    rw [Rat.div_lt_iff hx, show (y.1 : Rat) / (y.2.2 : Rat) * (x.2.2 : Rat) = ((y.1 : Rat) * (x.2.2 : Rat)) / (y.2.2 : Rat) by grind, Rat.lt_div_iff hy, ← Rat.intCast_mul, ← Rat.intCast_mul, Rat.intCast_lt_intCast]
  rw [key b a p2 p1, key a b p1 p2]
  unfold crossI
  constructor <;> constructor <;> intro h <;> omega
theorem cmpF_gt {a b : Q} (ha : realQ a = true) (hb : realQ b = true) : 0 < cmpF a b ↔ reR b < reR a := by
  rw [← (cross_pos ha hb).1]
  unfold cmpF sgnI
  rw [ha, hb]
  simp only [Bool.and_self, if_true]
  split
  · omega
  · split <;> omega
theorem cmpF_lt {a b : Q} (ha : realQ a = true) (hb : realQ b = true) : cmpF a b < 0 ↔ reR a < reR b := by
  rw [← (cross_pos ha hb).2]
  unfold cmpF sgnI
  rw [ha, hb]
  simp only [Bool.and_self, if_true]
  split
  · omega
  · split <;> omega
theorem one_real : realQ oneQ = true := by decide
theorem nil_real : realQ nil1 = true := by decide
def kd (k : Nat) : List Value :=
  let s := Value.int .i64 (1 - 2 * ((k % 2 : Nat) : Int))
  let o := Value.int .i64 0
  [.int .i64 1, .int .i64 0, .int .i64 1, if k / 2 = 0 then s else o, .int .i64 0, .int .i64 1, if k / 2 = 1 then s else o, .int .i64 0, .int .i64 1, if k / 2 = 2 then s else o, .int .i64 0, .int .i64 1]
theorem kd_real (k : Nat) (hk : k < 6) : ∀ j, j < 4 → realQ (q3 (kd k) (3 * j)) = true := by
  rcases (by omega : k = 0 ∨ k = 1 ∨ k = 2 ∨ k = 3 ∨ k = 4 ∨ k = 5) with rfl | rfl | rfl | rfl | rfl | rfl <;> exact get4 (by decide) (by decide) (by decide) (by decide)
def Fit3 (x c : Value) : Prop := ∃ a n cap, x = .slice a n cap ∧ c.cells.size = n * 3 ∧ n ≤ 9223372036854775807
def rq3 (c : Value) (k : Nat) : Q := (toI (c.cells.getD (k * 3 + 0) undef), toI (c.cells.getD (k * 3 + 1) undef), toI (c.cells.getD (k * 3 + 2) undef))
theorem inb_ok3 {c : Value} {n k : Nat} (hc : c.cells.size = n * 3) (hk : k < n) : (Value.bool (decide (0 ≤ toI (.int .i64 (k : Int)) ∧ ((toI (.int .i64 (k : Int))).toNat + 1) * 3 ≤ c.cells.size))) = .bool true := by
  congr 1
  rw [decide_eq_true_eq, hc]
  simp only [toI_int, Int.toNat_natCast]
  omega
def vQ (v : Q) : List Value := [.int .i64 v.1, .int .i64 v.2.1, .int .i64 v.2.2]
def grt (x : Nat → Q) : Nat → Nat
  | 0 => 0
  | k + 1 => if cmpF (x k) (x (grt x k)) > 0 then k else grt x k
theorem grt_lt (x : Nat → Q) : ∀ n, 0 < n → grt x n < n
  | 0, h => by omega
  | 1, _ => by
    rw [grt]
    split
    · omega
    · exact Nat.zero_lt_one
  | n + 2, _ => by
    rw [grt]
    have := grt_lt x (n + 1) (by omega)
    split <;> omega
def inUnit (v : Q) : Bool := decide (cmpF v nil1 ≥ 0) && decide (cmpF v oneQ ≤ 0)
theorem inUnit_iff {v : Q} (h : realQ v = true) : inUnit v = true ↔ 0 ≤ reR v ∧ reR v ≤ 1 := by
  unfold inUnit
  rw [Bool.and_eq_true, decide_eq_true_eq, decide_eq_true_eq]
  have h1 := cmpF_lt h nil_real
  have h2 := cmpF_gt h one_real
  rw [nilQ_re] at h1
  rw [oneQ_re] at h2
  constructor
  · rintro ⟨a, b⟩
    have a' : ¬ reR v < 0 := fun hh => by have := h1.2 hh; omega
    have b' : ¬ 1 < reR v := fun hh => by have := h2.2 hh; omega
    grind
  · rintro ⟨a, b⟩
    refine ⟨?_, ?_⟩
    · have : ¬ cmpF v nil1 < 0 := fun hh => by have := h1.1 hh; grind
      omega
    · have : ¬ 0 < cmpF v oneQ := fun hh => by have := h2.1 hh; grind
      omega
end Go.Sx
namespace Go.Sx
open Go
set_option linter.unusedVariables false
set_option linter.unusedSimpArgs false
theorem sq_nn (x : Rat) : 0 ≤ x * x := by
  by_cases h : 0 ≤ x
  · exact Rat.mul_nonneg h h
  · have h' : 0 ≤ -x := by grind
    have := Rat.mul_nonneg h' h'
    grind
end Go.Sx
namespace Go.Sx
open Go
set_option linter.unusedVariables false
set_option linter.unusedSimpArgs false
end Go.Sx
namespace Go.Sx
open Go
def cutGo (c : UInt8) : List UInt8 → List UInt8 → List (List UInt8)
  | acc, [] => [acc]
  | acc, x :: r => if x = c then acc :: cutGo c [] r else cutGo c (acc ++ [x]) r
def cut (c : UInt8) (l : List UInt8) : List (List UInt8) := cutGo c [] l
theorem cutGo_pre (c : UInt8) : ∀ (l a acc : List UInt8), ∃ h t, cutGo c acc l = h :: t ∧ cutGo c (a ++ acc) l = (a ++ h) :: t
  | [], a, acc => ⟨acc, [], rfl, rfl⟩
  | x :: r, a, acc => by
    by_cases hx : x = c
    · exact ⟨acc, cutGo c [] r, by rw [cutGo, if_pos hx], by rw [cutGo, if_pos hx]⟩
    · obtain ⟨h, t, e1, e2⟩ := cutGo_pre c r a (acc ++ [x])
      exact ⟨h, t, by rw [cutGo, if_neg hx, e1], by rw [cutGo, if_neg hx, List.append_assoc, e2]⟩
theorem cut_ne (c : UInt8) (l : List UInt8) : cut c l ≠ [] := by
  obtain ⟨h, t, e, _⟩ := cutGo_pre c l [] []
  unfold cut
  rw [e]; simp
theorem index_one (b c : UInt8) (l : List UInt8) : Lib.index (b :: l) [c] = if b = c then 0 else if Lib.index l [c] == -1 then -1 else Lib.index l [c] + 1 := by
  rw [Lib.index]
  by_cases h : b = c
  · subst h; simp [List.isPrefixOf]
  · simp [List.isPrefixOf, h, Ne.symm h]
theorem splitK_cut (c : UInt8) : ∀ s : List UInt8, Lib.splitK [c] 0 (Lib.count s [c]) s = cut c s
  | [] => by rw [Lib.count_miss (by simp [Lib.index])]; rfl
  | b :: l => by
    have ih := splitK_cut c l
    by_cases h : b = c
    · subst h
      rw [Lib.count_cons_eq, Nat.add_comm, Lib.splitK, index_one, if_pos rfl]
      simp only [List.length_singleton]
      rw [if_neg (by decide)]
      simp only [Int.toNat_zero, Nat.add_zero, List.take_zero, Nat.zero_add, List.drop_succ_cons, List.drop_zero]
      rw [ih]
      simp [cut, cutGo]
    · rw [Lib.count_cons_ne b c l h]
      obtain ⟨hh, t, e1, e2⟩ := cutGo_pre c l [b] []
      have e3 : cut c (b :: l) = (b :: hh) :: t := by
        unfold cut
        rw [cutGo, if_neg h]
        simpa using e2
      have e4 : cut c l = hh :: t := e1
      rw [e3]
      rw [e4] at ih
      cases hk : Lib.count l [c] with
      | zero =>
        rw [hk] at ih
        simp only [Lib.splitK] at ih ⊢
        cases ih
        rfl
      | succ k =>
        rw [hk] at ih
        have hne : Lib.index l [c] ≠ -1 := fun e => by rw [Lib.count_miss e] at hk; cases hk
        have hge := Lib.index_ge l [c]
        rw [Lib.splitK, if_neg (by simpa using hne)] at ih
        have e0 : (if Lib.index l [c] == -1 then (-1 : Int) else Lib.index l [c] + 1) = Lib.index l [c] + 1 := if_neg (by simpa using hne)
        rw [Lib.splitK, index_one, if_neg h, e0, if_neg (by simp; omega)]
        have e5 : (Lib.index l [c] + 1).toNat = (Lib.index l [c]).toNat + 1 := by omega
        rw [e5]
        simp only [Nat.add_zero, List.length_singleton, List.take_succ_cons, List.drop_succ_cons] at ih ⊢
        cases ih
        rfl
def joinB (c : UInt8) : List (List UInt8) → List UInt8
  | [] => []
  | [x] => x
  | x :: y :: r => x ++ c :: joinB c (y :: r)
theorem joinB_cons {c : UInt8} {x : List UInt8} : ∀ {r : List (List UInt8)}, r ≠ [] → joinB c (x :: r) = x ++ c :: joinB c r
  | [], h => absurd rfl h
  | _ :: _, _ => rfl
theorem joinB_cutGo (c : UInt8) : ∀ (l acc : List UInt8), joinB c (cutGo c acc l) = acc ++ l
  | [], acc => by simp [cutGo, joinB]
  | x :: r, acc => by
    by_cases hx : x = c
    · rw [cutGo, if_pos hx, joinB_cons (by have := cut_ne c r; exact this), joinB_cutGo c r [], hx]; simp
    · rw [cutGo, if_neg hx, joinB_cutGo c r (acc ++ [x])]; simp
theorem joinB_cut (c : UInt8) (l : List UInt8) : joinB c (cut c l) = l := by
  unfold cut; rw [joinB_cutGo]; rfl
def digGo (acc : Nat) : List UInt8 → Option Nat
  | [] => some acc
  | x :: r => if 48 ≤ x.toNat ∧ x.toNat ≤ 57 then digGo (10 * acc + (x.toNat - 48)) r else none
theorem digGo_ge : ∀ {l : List UInt8} {acc u : Nat}, digGo acc l = some u → acc ≤ u
  | [], acc, u, h => by simp [digGo] at h; omega
  | x :: r, acc, u, h => by
    simp only [digGo] at h
    split at h
    · have := digGo_ge h; omega
    · cases h
theorem digGo_snoc (d : UInt8) (hd : 48 ≤ d.toNat ∧ d.toNat ≤ 57) : ∀ {l : List UInt8} {acc u : Nat}, digGo acc l = some u → digGo acc (l ++ [d]) = some (10 * u + (d.toNat - 48))
  | [], acc, u, h => by simp [digGo] at h; subst h; simp [digGo, hd]
  | x :: r, acc, u, h => by
    simp only [digGo, List.cons_append] at h ⊢
    split at h
    · rename_i hc
      rw [if_pos hc]
      exact digGo_snoc d hd h
    · cases h
theorem digit_ok {k : Nat} (h : k < 10) : (UInt8.ofNat (48 + k)).toNat = 48 + k := by
  simp [UInt8.toNat_ofNat']; omega
theorem digGo_dec (u : Nat) : digGo 0 (Lib.decDigits u) = some u := by
  induction u using Nat.strongRecOn with
  | _ u ih =>
    rw [Lib.decDigits]
    split
    · rename_i h
      have := digit_ok h
      simp [digGo, this]; omega
    · rename_i h
      have hm : u % 10 < 10 := Nat.mod_lt _ (by decide)
      have e := digit_ok hm
      rw [digGo_snoc _ (by rw [e]; omega) (ih (u / 10) (by omega)), e]
      congr 1
      omega
theorem dec_digit (u : Nat) : ∀ x ∈ Lib.decDigits u, 48 ≤ x.toNat ∧ x.toNat ≤ 57 := by
  induction u using Nat.strongRecOn with
  | _ u ih =>
    intro x hx
    rw [Lib.decDigits] at hx
    split at hx
    · rename_i h
      rw [List.mem_singleton.1 hx, digit_ok h]; omega
    · rename_i h
      have hm : u % 10 < 10 := Nat.mod_lt _ (by decide)
      rcases List.mem_append.1 hx with hx | hx
      · exact ih (u / 10) (by omega) x hx
      · rw [List.mem_singleton.1 hx, digit_ok hm]; omega
theorem dec_ne (u : Nat) : Lib.decDigits u ≠ [] := by
  rw [Lib.decDigits]
  split <;> simp
theorem parse_dig : ∀ {l : List UInt8} {acc u : Nat}, digGo acc l = some u → u < 18446744073709551616 → Lib.parseUint10 acc l = .ok u
  | [], acc, u, h, _ => by simp [digGo] at h; subst h; rfl
  | x :: r, acc, u, h, hu => by
    simp only [digGo] at h
    split at h
    · rename_i hc
      have hge := digGo_ge h
      simp only [Lib.parseUint10]
      rw [if_pos hc, if_neg (by omega), if_neg (by omega)]
      rw [show acc * 10 + (x.toNat - 48) = 10 * acc + (x.toNat - 48) by omega]
      exact parse_dig h hu
    · cases h
theorem atoiAll_neg (r : List UInt8) : Lib.atoiAll (45 :: r) = (match Lib.parseMag r with
    | .syntax => .syntax
    | .range => .range
    | .ok u => if 9223372036854775808 < u then .range else .ok (-(u : Int))) := by
  unfold Lib.atoiAll
  simp
  cases Lib.parseMag r <;> rfl
theorem atoiAll_pos {x : UInt8} (r : List UInt8) (h : x.toNat ≠ 43) (h' : x.toNat ≠ 45) : Lib.atoiAll (x :: r) = (match Lib.parseMag (x :: r) with
    | .syntax => .syntax
    | .range => .range
    | .ok u => if 9223372036854775808 ≤ u then .range else .ok (u : Int)) := by
  unfold Lib.atoiAll
  simp [h, h']
  cases Lib.parseMag (x :: r) <;> rfl
theorem atoi_itoa {v : Int} (h0 : -9223372036854775808 ≤ v) (h1 : v ≤ 9223372036854775807) : Lib.atoiAll (Lib.itoa v) = .ok v := by
  unfold Lib.itoa
  split
  · rename_i hv
    have hp := parse_dig (digGo_dec v.natAbs) (by omega)
    have : Lib.parseMag (Lib.decDigits v.natAbs) = .ok v.natAbs := by unfold Lib.parseMag; rw [if_neg (dec_ne _), hp]
    rw [atoiAll_neg, this]
    simp only
    rw [if_neg (by omega)]
    congr 1
    omega
  · rename_i hv
    have hp := parse_dig (digGo_dec v.toNat) (by omega)
    cases hd : Lib.decDigits v.toNat with
    | nil => exact absurd hd (dec_ne _)
    | cons x r =>
      have hx := dec_digit v.toNat x (by rw [hd]; simp)
      have : Lib.parseMag (x :: r) = .ok v.toNat := by unfold Lib.parseMag; rw [if_neg (by simp), ← hd, hp]
      rw [atoiAll_pos r (by omega) (by omega), this]
      simp only
      rw [if_neg (by omega)]
      congr 1
      omega
def num (l : List UInt8) : Option Int :=
  match Lib.atoiAll l with
  | .ok v => if Lib.itoa v = l then some v else none
  | _ => none
theorem num_iff {l : List UInt8} {v : Int} : num l = some v ↔ I64 v ∧ Lib.itoa v = l := by
  unfold num
  constructor
  · intro h
    split at h
    · rename_i u hu
      split at h
      · rename_i he
        cases h
        exact ⟨Lib.atoiAll_bounds hu, he⟩
      · cases h
    · cases h
  · rintro ⟨h1, rfl⟩
    unfold I64 at h1
    rw [atoi_itoa h1.1 h1.2]
    simp
def sraw : List UInt8 → Option Int
  | [] => none
  | x :: r => if x = 45 then (digGo 0 r).map fun n : Nat => -(n : Int) else (digGo 0 (x :: r)).map fun n : Nat => (n : Int)
theorem digGo_lt : ∀ {l : List UInt8} {acc u : Nat}, digGo acc l = some u → u < (acc + 1) * 10 ^ l.length
  | [], acc, u, h => by simp [digGo] at h; subst h; simp
  | x :: r, acc, u, h => by
    simp only [digGo] at h
    split at h
    · have := digGo_lt h
      have h2 : (10 * acc + (x.toNat - 48) + 1) * 10 ^ r.length ≤ ((acc + 1) * 10) * 10 ^ r.length := Nat.mul_le_mul_right _ (by omega)
      rw [List.length_cons, Nat.pow_succ, Nat.mul_comm (10 ^ r.length) 10, ← Nat.mul_assoc]
      omega
    · cases h
def snum (l : List UInt8) : Option Int :=
  if l.length ≤ 4 then
    match sraw l with
    | some n => if Lib.itoa n = l then some n else none
    | none => none
  else none
theorem sraw_itoa (v : Int) : sraw (Lib.itoa v) = some v := by
  unfold Lib.itoa
  split
  · simp only [sraw, if_true, digGo_dec]
    simp; omega
  · rename_i hv
    cases hd : Lib.decDigits v.toNat with
    | nil => exact absurd hd (dec_ne _)
    | cons x r =>
      have hx := dec_digit v.toNat x (by rw [hd]; simp)
      have : x ≠ 45 := fun e => by subst e; simp at hx
      simp only [sraw, this, if_false]
      rw [← hd, digGo_dec]
      simp; omega
theorem snum_num (l : List UInt8) : snum l = if l.length ≤ 4 then num l else none := by
  unfold snum
  split
  · rename_i hl
    cases hn : num l with
    | none =>
      split
      · rename_i n hs
        split
        · rename_i he
          have hI : I64 n := by
            unfold I64
            rcases l with _ | ⟨x, r⟩
            · simp [sraw] at hs
            · simp only [List.length_cons] at hl
              simp only [sraw] at hs
              have hp : 10 ^ r.length ≤ 1000 := by
                have := Nat.pow_le_pow_right (n := 10) (by decide) (show r.length ≤ 3 by omega)
                simpa using this
              split at hs
              · simp only [Option.map_eq_some_iff] at hs
                obtain ⟨u, hu, rfl⟩ := hs
                have := digGo_lt hu
                omega
              · simp only [Option.map_eq_some_iff] at hs
                obtain ⟨u, hu, rfl⟩ := hs
                have := digGo_lt hu
                simp only [List.length_cons, Nat.pow_succ] at this
                omega
          rw [num_iff.2 ⟨hI, he⟩] at hn
          cases hn
        · rfl
      · rfl
    | some v =>
      obtain ⟨hI, he⟩ := num_iff.1 hn
      rw [← he, sraw_itoa]
      simp
  · rfl
theorem itoa_len {v : Int} (h : -1000 < v) (h' : v < 10000) : (Lib.itoa v).length ≤ 4 := by
  have key : ∀ u : Nat, u < 10000 → (Lib.decDigits u).length ≤ 4 ∧ (u < 1000 → (Lib.decDigits u).length ≤ 3) := by
    intro u hu
    have e : ∀ k : Nat, k < 10 → (Lib.decDigits k).length = 1 := fun k hk => by rw [Lib.decDigits, dif_pos hk]; rfl
    have s : ∀ k : Nat, ¬ k < 10 → (Lib.decDigits k).length = (Lib.decDigits (k / 10)).length + 1 := fun k hk => by rw [Lib.decDigits, dif_neg hk]; simp
    by_cases h1 : u < 10
    · rw [e u h1]; omega
    · rw [s u h1]
      by_cases h2 : u / 10 < 10
      · rw [e _ h2]; omega
      · rw [s _ h2]
        by_cases h3 : u / 10 / 10 < 10
        · rw [e _ h3]; omega
        · rw [s _ h3, e (u / 10 / 10 / 10) (by omega)]; omega
  unfold Lib.itoa
  split
  · have := (key v.natAbs (by omega)).2 (by omega)
    simp only [List.length_cons]; omega
  · exact (key v.toNat (by omega)).1
end Go.Sx
namespace Go.Sx
open Go
def okPiece (k : UInt8) (ns : List Int) : Bool :=
  if k = 114 ∨ k = 102 then (match ns with
    | [p, q] => dirOk p q
    | _ => false)
  else if k = 119 then (match ns with
    | [p, q, r] => dirOk p q && inRg r 0 3
    | _ => false)
  else if k = 97 ∨ k = 100 then (match ns with
    | [n, d] => inRg d 1 100 && inRg n 0 d
    | _ => false)
  else false
theorem okPiece_facts {k : UInt8} {ns : List Int} (h : okPiece k ns = true) : ns.length ≤ 3 ∧ 2 ≤ ns.length ∧ ∀ n ∈ ns, -100 ≤ n ∧ n ≤ 100 := by
  have hd : ∀ {p q : Int}, dirOk p q = true → (-100 ≤ p ∧ p ≤ 100) ∧ (-100 ≤ q ∧ q ≤ 100) := by
    intro p q h
    simp only [dirOk, Bool.and_eq_true, inRg, decide_eq_true_eq] at h
    omega
  unfold okPiece at h
  split at h
  · split at h
    · have := hd h
      refine ⟨by simp, by simp, fun n hn => ?_⟩
      simp only [List.mem_cons, List.not_mem_nil, or_false] at hn
      rcases hn with rfl | rfl
      · exact this.1
      · exact this.2
    · cases h
  · split at h
    · split at h
      · rw [Bool.and_eq_true] at h
        have h1 := hd h.1
        have h2 := h.2
        simp only [Bool.and_eq_true, inRg, decide_eq_true_eq] at h2
        refine ⟨by simp, by simp, fun n hn => ?_⟩
        simp only [List.mem_cons, List.not_mem_nil, or_false] at hn
        rcases hn with rfl | rfl | rfl
        · exact h1.1
        · exact h1.2
        · omega
      · cases h
    · split at h
      · split at h
        · simp only [Bool.and_eq_true, inRg, decide_eq_true_eq] at h
          refine ⟨by simp, by simp, fun n hn => ?_⟩
          simp only [List.mem_cons, List.not_mem_nil, or_false] at hn
          rcases hn with rfl | rfl
          · omega
          · omega
        · cases h
      · cases h
def numsW (nm : List UInt8 → Option Int) : List (List UInt8) → Option (List Int)
  | [] => some []
  | w :: r => match nm w, numsW nm r with
    | some n, some l => some (n :: l)
    | _, _ => none
theorem numsW_cons {nm : List UInt8 → Option Int} {w : List UInt8} {r : List (List UInt8)} {ns : List Int} (h : numsW nm (w :: r) = some ns) : ∃ n l, nm w = some n ∧ numsW nm r = some l ∧ ns = n :: l := by
  simp only [numsW] at h
  split at h
  · rename_i n l h1 h2
    cases h
    exact ⟨n, l, h1, h2, rfl⟩
  · cases h
theorem numsW_length {nm : List UInt8 → Option Int} : ∀ {ws : List (List UInt8)} {ns : List Int}, numsW nm ws = some ns → ns.length = ws.length
  | [], _, h => by cases h; rfl
  | w :: r, ns, h => by
    obtain ⟨n, l, _, h2, rfl⟩ := numsW_cons h
    simp [numsW_length h2]
theorem numsW_snoc {nm : List UInt8 → Option Int} {w : List UInt8} : ∀ {ws : List (List UInt8)}, numsW nm (ws ++ [w]) = match numsW nm ws, nm w with
    | some l, some n => some (l ++ [n])
    | _, _ => none
  | [] => by simp only [List.nil_append, numsW]; cases nm w <;> rfl
  | x :: r => by
    simp only [List.cons_append, numsW, numsW_snoc (ws := r)]
    cases nm x <;> cases numsW nm r <;> cases nm w <;> rfl
theorem numsW_none {nm : List UInt8 → Option Int} {w : List UInt8} (hw : nm w = none) : ∀ {ws : List (List UInt8)}, w ∈ ws → numsW nm ws = none
  | x :: r, h => by
    simp only [numsW]
    rcases List.mem_cons.1 h with rfl | h
    · rw [hw]
    · rw [numsW_none hw h]
      cases nm x <;> rfl
theorem snum_some {l : List UInt8} {n : Int} (h : snum l = some n) : num l = some n := by
  rw [snum_num] at h
  split at h
  · exact h
  · cases h
theorem num_short {l : List UInt8} {n : Int} (h : num l = some n) (h1 : -100 ≤ n) (h2 : n ≤ 100) : l.length ≤ 4 := by
  rw [← (num_iff.1 h).2]
  exact itoa_len (by omega) (by omega)
theorem numsW_s : ∀ {ws : List (List UInt8)} {ns : List Int}, numsW snum ws = some ns → numsW num ws = some ns
  | [], _, h => h
  | w :: r, ns, h => by
    obtain ⟨n, l, h1, h2, rfl⟩ := numsW_cons h
    simp only [numsW, snum_some h1, numsW_s h2]
theorem numsW_n : ∀ {ws : List (List UInt8)} {ns : List Int}, numsW num ws = some ns → (∀ n ∈ ns, -100 ≤ n ∧ n ≤ 100) → numsW snum ws = some ns ∧ ∀ w ∈ ws, w.length ≤ 4
  | [], _, h, _ => ⟨h, fun w hw => by cases hw⟩
  | w :: r, ns, h, hb => by
    obtain ⟨n, l, h1, h2, rfl⟩ := numsW_cons h
    obtain ⟨i1, i2⟩ := numsW_n h2 (fun n hn => hb n (List.mem_cons_of_mem _ hn))
    have hn := hb n List.mem_cons_self
    have hl := num_short h1 hn.1 hn.2
    refine ⟨by simp only [numsW, i1, snum_num, if_pos hl, h1], fun x hx => ?_⟩
    rcases List.mem_cons.1 hx with rfl | hx
    · exact hl
    · exact i2 x hx
def pieceW (nm : List UInt8 → Option Int) : List UInt8 → Option (UInt8 × List Int)
  | [] => none
  | k :: r => match numsW nm (cut 58 r) with
    | some ns => if okPiece k ns = true then some (k, ns) else none
    | none => none
theorem pieceW_cons {nm : List UInt8 → Option Int} {k : UInt8} {r : List UInt8} {p : UInt8 × List Int} (h : pieceW nm (k :: r) = some p) : ∃ ns, numsW nm (cut 58 r) = some ns ∧ okPiece k ns = true ∧ p = (k, ns) := by
  simp only [pieceW] at h
  split at h
  · rename_i ns hn
    split at h
    · rename_i ho
      cases h
      exact ⟨ns, hn, ho, rfl⟩
    · cases h
  · cases h
theorem pieceW_same (s : List UInt8) : pieceW snum s = pieceW num s := by
  cases s with
  | nil => rfl
  | cons k r =>
    cases h : pieceW num (k :: r) with
    | some p =>
      obtain ⟨ns, h1, h2, rfl⟩ := pieceW_cons h
      have h3 := (numsW_n h1 (okPiece_facts h2).2.2).1
      simp only [pieceW, h3, h2, if_true]
    | none =>
      cases h' : pieceW snum (k :: r) with
      | none => rfl
      | some p =>
        obtain ⟨ns, h1, h2, rfl⟩ := pieceW_cons h'
        have h3 := numsW_s h1
        simp only [pieceW, h3, h2, if_true] at h
        cases h
theorem joinB_length (c : UInt8) (m : Nat) : ∀ {ws : List (List UInt8)}, (∀ w ∈ ws, w.length ≤ m) → (joinB c ws).length ≤ ws.length * (m + 1)
  | [], _ => by simp [joinB]
  | [x], h => by
    have := h x (by simp)
    simp [joinB]; omega
  | x :: y :: r, h => by
    have ih := joinB_length c m (ws := y :: r) (fun w hw => h w (List.mem_cons_of_mem _ hw))
    have := h x (by simp)
    rw [joinB]
    simp only [List.length_append, List.length_cons] at ih ⊢
    rw [Nat.add_mul (r.length + 1) 1]
    omega
theorem pieceW_length {s : List UInt8} {p : UInt8 × List Int} (h : pieceW num s = some p) : s.length ≤ 16 := by
  cases s with
  | nil => simp
  | cons k r =>
    obtain ⟨ns, h1, h2, rfl⟩ := pieceW_cons h
    obtain ⟨q1, _, q2⟩ := okPiece_facts h2
    have h3 := (numsW_n h1 q2).2
    have hl := numsW_length h1
    have h4 := joinB_length 58 4 h3
    rw [joinB_cut] at h4
    simp only [List.length_cons]
    omega
structure Pc where
  k : UInt8
  ns : List Int
  t : List UInt8
def pcsW : List (List UInt8) → Option (List Pc)
  | [] => some []
  | w :: r => match pieceW num w, pcsW r with
    | some (k, ns), some l => some (⟨k, ns, w⟩ :: l)
    | _, _ => none
theorem pcsW_cons {w : List UInt8} {r : List (List UInt8)} {ps : List Pc} (h : pcsW (w :: r) = some ps) : ∃ k ns l, pieceW num w = some (k, ns) ∧ pcsW r = some l ∧ ps = ⟨k, ns, w⟩ :: l := by
  simp only [pcsW] at h
  split at h
  · rename_i k ns l h1 h2
    cases h
    exact ⟨k, ns, l, h1, h2, rfl⟩
  · cases h
theorem pcsW_length : ∀ {ws : List (List UInt8)} {ps : List Pc}, pcsW ws = some ps → ps.length = ws.length ∧ ps.map Pc.t = ws
  | [], _, h => by cases h; exact ⟨rfl, rfl⟩
  | w :: r, ps, h => by
    obtain ⟨k, ns, l, _, h2, rfl⟩ := pcsW_cons h
    obtain ⟨i1, i2⟩ := pcsW_length h2
    exact ⟨by simp [i1], by simp [i2]⟩
theorem pcsW_snoc {w : List UInt8} : ∀ {ws : List (List UInt8)}, pcsW (ws ++ [w]) = match pcsW ws, pieceW num w with
    | some l, some (k, ns) => some (l ++ [⟨k, ns, w⟩])
    | _, _ => none
  | [] => by
    simp only [List.nil_append, pcsW]
    cases pieceW num w with
    | none => rfl
    | some p => rfl
  | x :: r => by
    simp only [List.cons_append, pcsW, pcsW_snoc (ws := r)]
    cases pieceW num x <;> cases pcsW r <;> cases pieceW num w <;> rfl
theorem pcsW_none {w : List UInt8} (hw : pieceW num w = none) : ∀ {ws : List (List UInt8)}, w ∈ ws → pcsW ws = none
  | x :: r, h => by
    simp only [pcsW]
    rcases List.mem_cons.1 h with rfl | h
    · rw [hw]
    · rw [pcsW_none hw h]
      cases pieceW num x <;> rfl
theorem pcsW_ok : ∀ {ws : List (List UInt8)} {ps : List Pc}, pcsW ws = some ps → ∀ p ∈ ps, okPiece p.k p.ns = true ∧ p.t.length ≤ 16 ∧ pieceW num p.t = some (p.k, p.ns)
  | [], _, h, p, hp => by cases h; cases hp
  | w :: r, ps, h, p, hp => by
    obtain ⟨k, ns, l, h1, h2, rfl⟩ := pcsW_cons h
    rcases List.mem_cons.1 hp with rfl | hp
    · refine ⟨?_, pieceW_length h1, h1⟩
      cases w with
      | nil => cases h1
      | cons x s =>
        obtain ⟨ns', _, h4, h5⟩ := pieceW_cons h1
        cases h5
        exact h4
    · exact pcsW_ok h2 p hp
def benchW (s : List UInt8) : Option (List Pc) :=
  if s = [] then some [] else match pcsW (cut 32 s) with
  | some ps => if ps.length ≤ 12 then some ps else none
  | none => none
theorem benchW_some {s : List UInt8} {ps : List Pc} (h : benchW s = some ps) : ps.length ≤ 12 ∧ (s = [] ∧ ps = [] ∨ s ≠ [] ∧ pcsW (cut 32 s) = some ps) := by
  unfold benchW at h
  split at h
  · rename_i hs
    cases h
    exact ⟨by simp, .inl ⟨hs, rfl⟩⟩
  · rename_i hs
    split at h
    · rename_i l hl
      split at h
      · rename_i hle
        cases h
        exact ⟨hle, .inr ⟨hs, hl⟩⟩
      · cases h
    · cases h
theorem benchW_ok {s : List UInt8} {ps : List Pc} (h : benchW s = some ps) : ∀ p ∈ ps, okPiece p.k p.ns = true := by
  obtain ⟨_, ⟨_, rfl⟩ | ⟨_, h2⟩⟩ := benchW_some h
  · intro p hp; cases hp
  · exact fun p hp => (pcsW_ok h2 p hp).1
theorem benchW_length {s : List UInt8} {ps : List Pc} (h : benchW s = some ps) : s.length ≤ 300 := by
  obtain ⟨h1, ⟨rfl, rfl⟩ | ⟨_, h2⟩⟩ := benchW_some h
  · simp
  · obtain ⟨q1, q2⟩ := pcsW_length h2
    have h3 : ∀ w ∈ cut 32 s, w.length ≤ 16 := by
      rw [← q2]
      intro w hw
      obtain ⟨p, hp, rfl⟩ := List.mem_map.1 hw
      exact (pcsW_ok h2 p hp).2.1
    have h4 := joinB_length 32 16 h3
    rw [joinB_cut, ← q1] at h4
    omega
end Go.Sx
namespace Go.Sx
open Go
theorem conOK_hand {P : Program} {glb : List (Nat × List Sc)} {f : Nat} {sig : Sig} {sp : Spec} (h1 : sig.pre = []) (h2 : sig.post = []) (h3 : sig.gown = none)
    (h : ∀ (w : World) (ins : List Value) (K : List Value → Prop), GlbOk glb w → TypedL sig.tin ins → (∀ x c n, (x, c, n) ∈ sig.gin → RowOk w (ins.getD x undef) (ins.getD c undef) n) → sp ins K →
      Calls P f (sig.args.map (CV.val (at0 []) ins)).toArray w fun e w' => ∃ outs v, e = .returned v ∧ K outs ∧ TypedL sig.tout outs ∧ sig.res.is (at0 []) outs v ∧ RowKit.Below w.heap.size w w' ∧
        ∀ x c n, (x, c, n) ∈ sig.gout → RowOk w' (outs.getD x undef) (outs.getD c undef) n ∧ ∀ k, BlkOf (outs.getD x undef) (outs.getD c undef) k → w.heap.size ≤ k) : ConOK P glb f sig sp := by
  intro w bs ins K g hs
  have hbs : bs = [] := List.eq_nil_of_length_eq_zero (by rw [g.len, h1]; rfl)
  subst hbs
  refine (h w ins K g.glob g.typed (fun x c n hm => (g.rows x c n hm).1) hs).mono ?_
  rintro e w' ⟨outs, v, rfl, hK, hty, hr, hb, hrow⟩
  exact ⟨outs, [], v, rfl,
    { post := hK
      typed := hty
      len := by rw [h2]; rfl
      old := fun k hk => by simp at hk
      new := fun k _ hk => by simp at hk
      nodup := List.nodup_nil
      res := hr
      blk := fun k b hb => by rw [h2] at hb; simp at hb
      rows := fun x c n hm => ⟨(hrow x c n hm).1, fun k hk => ⟨(hrow x c n hm).2 k hk, by simp⟩⟩
      os := hb.os
      tape := hb.tape
      output := hb.output
      size := hb.size
      frame := fun k hk _ => hb.block k hk
      owns := fun x c n e hg => by rw [h3] at hg; cases hg }⟩
def bv (l : List UInt8) : Value := .string ⟨l.toArray⟩
def rowS (ws : List (List UInt8)) : Value := .agg (ws.map bv).toArray
def bytes (v : Value) : List UInt8 := (strV v).data.toList
theorem bv_of (s : ByteArray) : Value.string s = bv s.data.toList := by
  obtain ⟨⟨l⟩⟩ := s
  rfl
theorem size_bv (l : List UInt8) : (⟨l.toArray⟩ : ByteArray).size = l.length := by simp [ByteArray.size]
theorem str_of {v : Value} (h : HasTy .str v) : ∃ l, v = bv l ∧ l.length ≤ 9223372036854775807 := by
  obtain ⟨s, rfl, hs⟩ := h
  refine ⟨s.data.toList, bv_of s, ?_⟩
  rw [Array.length_toList]
  exact hs
theorem bv_ty {l : List UInt8} (h : l.length ≤ 9223372036854775807) : HasTy .str (bv l) := ⟨_, rfl, by rw [size_bv]; exact h⟩
theorem rowS_cells (ws : List (List UInt8)) : (rowS ws).cells = (ws.map bv).toArray := rfl
theorem rowS_ty {ws : List (List UInt8)} (h : ∀ w ∈ ws, w.length ≤ 9223372036854775807) : HasTy (.rowC [.str]) (rowS ws) := by
  refine ⟨_, rfl, ⟨ws.length, by simp⟩, fun i hi c hc => ?_⟩
  have hi' : i < ws.length := by simpa using hi
  have hm : i % 1 = 0 := by omega
  simp only [List.length_singleton, hm, List.getElem?_cons_zero, Option.some.injEq] at hc
  subst hc
  simp only [List.getElem_toArray, List.getElem_map]
  exact bv_ty (h _ (List.getElem_mem hi'))
theorem rowS_noFat (ws : List (List UInt8)) : ∀ v ∈ (rowS ws).cells, noFat v := by
  intro v hv
  simp only [rowS_cells, List.mem_toArray, List.mem_map] at hv
  obtain ⟨w, _, rfl⟩ := hv
  exact fun s c h => by cases h
theorem rowS_get {ws : List (List UInt8)} {i : Nat} {w : List UInt8} (h : ws[i]? = some w) : (rowS ws).cells.getD (i * 1 + 0) undef = bv w := by
  obtain ⟨hi, rfl⟩ := List.getElem?_eq_some_iff.1 h
  simp [rowS_cells, hi]
theorem cut_len (c : UInt8) (l : List UInt8) : ∀ w ∈ cut c l, w.length ≤ l.length := by
  have key : ∀ (l acc : List UInt8), ∀ w ∈ cutGo c acc l, w.length ≤ acc.length + l.length := by
    intro l
    induction l with
    | nil => intro acc w hw; simp [cutGo] at hw; rw [hw]; simp
    | cons x r ih =>
      intro acc w hw
      simp only [cutGo] at hw
      split at hw
      · rcases List.mem_cons.1 hw with rfl | hw
        · simp
        · have := ih [] w hw; simp at this ⊢; omega
      · have := ih (acc ++ [x]) w hw
        simp at this ⊢; omega
  intro w hw
  simpa using key l [] w hw
theorem cut_count (c : UInt8) (l : List UInt8) : (cut c l).length ≤ l.length + 1 := by
  have key : ∀ (l acc : List UInt8), (cutGo c acc l).length ≤ l.length + 1 := by
    intro l
    induction l with
    | nil => intro acc; simp [cutGo]
    | cons x r ih =>
      intro acc
      simp only [cutGo]
      split
      · have := ih []; simp at this ⊢; omega
      · have := ih (acc ++ [x]); simp at this ⊢; omega
  exact key l []
def SP_split : Spec := fun ins K => ∃ s c, ins = [bv s, bv [c]] ∧ s.length ≤ 2097152 ∧ ∀ a len cap, len = (cut c s).length → K [.slice a len cap, rowS (cut c s)]
def sgSplit : Sig := { args := [.s (.e (.var 0)), .s (.e (.var 1))], pre := [], tin := [.str, .str], gin := [], res := .c (.s (.e (.var 0))), post := [], tout := [.sl, .rowC [.str]], gout := [(0, 1, 1)] }
theorem splitB_cut (s : List UInt8) (c : UInt8) : ((Lib.splitB ⟨#[c]⟩ 0 (Lib.countB ⟨s.toArray⟩ ⟨#[c]⟩) ⟨s.toArray⟩).map Value.string) = (cut c s).map bv := by
  have h := Lib.splitB_data ⟨#[c]⟩ 0 (Lib.countB ⟨s.toArray⟩ ⟨#[c]⟩) ⟨s.toArray⟩
  have h2 : Lib.countB ⟨s.toArray⟩ ⟨#[c]⟩ = Lib.count s [c] := rfl
  rw [h2] at h ⊢
  have h3 := splitK_cut c s
  rw [show (⟨#[c]⟩ : ByteArray).data.toList = [c] from rfl, show (⟨s.toArray⟩ : ByteArray).data.toList = s from rfl, h3] at h
  rw [← h, List.map_map]
  refine List.map_congr_left fun x _ => ?_
  exact bv_of x
theorem countB_cut (s : List UInt8) (c : UInt8) : Lib.countB ⟨s.toArray⟩ ⟨#[c]⟩ + 1 = (cut c s).length := by
  have h := Lib.splitB_all ⟨#[c]⟩ (Nat.le_refl 1) 0 _ ⟨s.toArray⟩ rfl
  rw [← h, ← List.length_map (f := Value.string), splitB_cut, List.length_map]
theorem conOK_split {P : Program} {glb : List (Nat × List Sc)} {f : Nat} {t : TypeId}
    (h : ∀ (s sep : ByteArray) (w : World), GlbOk glb w → s.size < 4294967281 → 1 ≤ sep.size → Calls P f #[.string s, .string sep] w fun e w' =>
      e = .returned (.slice (some ⟨w.heap.size, 0, none⟩) (Lib.countB s sep + 1) (Lib.countB s sep + 1)) ∧ w' = w.alloc (.cells ((Lib.splitB sep 0 (Lib.countB s sep) s).map Value.string).toArray t)) : ConOK P glb f sgSplit SP_split := by
  refine conOK_hand rfl rfl rfl ?_
  rintro w ins K hg ht _ ⟨s, c, rfl, hs, hK⟩
  refine (h ⟨s.toArray⟩ ⟨#[c]⟩ w hg (by rw [size_bv]; omega) (Nat.le_refl 1)).mono ?_
  rintro e w' ⟨rfl, rfl⟩
  have hn := countB_cut s c
  have hl := cut_count c s
  rw [hn, splitB_cut]
  refine ⟨[.slice (some ⟨w.heap.size, 0, none⟩) (cut c s).length (cut c s).length, rowS (cut c s)], _, rfl, hK _ _ _ rfl, TypedL_cons' ⟨_, _, _, rfl, by omega⟩ (TypedL_cons' (rowS_ty fun x hx => by have := cut_len c s x hx; omega) TypedL_nil'), rfl, (RowKit.Below.refl _ _).alloc (Nat.le_refl _) _, fun x c' n hm => ?_⟩
  have : (x, c', n) = (0, 1, 1) := List.mem_singleton.1 hm
  cases this
  refine ⟨RowOk.plain (rowS_noFat _) (.inr ⟨⟨w.heap.size, 0, none⟩, _, _, rfl, rfl, by simp, by show w.heap.size < (w.heap.push _).size; rw [Array.size_push]; omega, fun j hj => ?_⟩), fun k hb => ?_⟩
  · rw [Nat.zero_add, World.cell?_alloc_at _ _ _ _ rfl]
    exact Array.getElem?_eq_getElem hj
  · obtain ⟨a, l, cc, ha, rfl⟩ := BlkOf.plain (rowS_noFat _) hb
    cases ha
    exact Nat.le_refl _
def SP_itoa : Spec := fun ins K => ∃ n : Int, ins = [.int .i64 n] ∧ K [bv (Lib.itoa n)]
def sgItoa : Sig := { args := [.s (.e (.var 0))], pre := [], tin := [.int .i64], gin := [], res := .c (.s (.e (.var 0))), post := [], tout := [.str], gout := [] }
theorem itoa_len20 {n : Int} (h : I64 n) : (Lib.itoa n).length ≤ 20 := by
  unfold I64 at h
  have key : ∀ (k u : Nat), u < 10 ^ (k + 1) → (Lib.decDigits u).length ≤ k + 1 := by
    intro k
    induction k with
    | zero => intro u hu; rw [Lib.decDigits, dif_pos (by simpa using hu)]; simp
    | succ k ih =>
      intro u hu
      rw [Lib.decDigits]
      split
      · simp
      · have := ih (u / 10) (by rw [Nat.pow_succ] at hu; omega)
        simp only [List.length_append, List.length_singleton]
        omega
  unfold Lib.itoa
  split
  · have := key 18 n.natAbs (by simp; omega)
    simp only [List.length_cons]; omega
  · have := key 18 n.toNat (by simp; omega)
    omega
theorem conOK_itoa {P : Program} {glb : List (Nat × List Sc)} {f : Nat}
    (h : ∀ (n : Int) (w : World), GlbOk glb w → -9223372036854775808 ≤ n → n ≤ 9223372036854775807 → Calls P f #[.int .i64 n] w fun e w' => e = .returned (.string ⟨(Lib.itoa n).toArray⟩) ∧ RowKit.Below w.heap.size w w') : ConOK P glb f sgItoa SP_itoa := by
  refine conOK_hand rfl rfl rfl ?_
  rintro w ins K hg ht _ ⟨n, rfl, hK⟩
  have hn : I64 n := by
    obtain ⟨z, e, hz⟩ := ht.2 0 _ rfl
    cases e
    exact (I64_iff _).1 hz
  have hn2 := hn
  unfold I64 at hn2
  refine (h n w hg hn2.1 hn2.2).mono ?_
  rintro e w' ⟨rfl, hb⟩
  exact ⟨[bv (Lib.itoa n)], _, rfl, hK, TypedL_cons' (bv_ty (by have := itoa_len20 hn; omega)) TypedL_nil', rfl, hb, fun x c n hm => by cases hm⟩
def SP_num (nm : List UInt8 → Option Int) : Spec := fun ins K => ∃ l, ins = [bv l] ∧ l.length ≤ 2097152 ∧ (match nm l with
  | some n => K [.int .i64 n, .bool true]
  | none => ∀ z, I64 z → K [.int .i64 z, .bool false])
def sgNum : Sig := { args := [.s (.e (.var 0))], pre := [], tin := [.str], gin := [], res := .tu [.s (.e (.var 0)), .s (.e (.var 1))], post := [], tout := [.int .i64, .bool], gout := [] }
theorem conOK_num {P : Program} {glb : List (Nat × List Sc)} {f : Nat}
    (h : ∀ (l : List UInt8) (w : World), GlbOk glb w → l.length ≤ 2097152 → Calls P f #[bv l] w fun e w' => ∃ z b, e = .returned (.tuple #[.int .i64 z, .bool b]) ∧ I64 z ∧ (match num l with
      | some n => z = n ∧ b = true
      | none => b = false) ∧ RowKit.Below w.heap.size w w') : ConOK P glb f sgNum (SP_num num) := by
  refine conOK_hand rfl rfl rfl ?_
  rintro w ins K hg ht _ ⟨l, rfl, hl, hK⟩
  refine (h l w hg hl).mono ?_
  rintro e w' ⟨z, b, rfl, hz, hm, hb⟩
  refine ⟨[.int .i64 z, .bool b], _, rfl, ?_, TypedL_cons' ⟨z, rfl, (I64_iff _).2 hz⟩ (TypedL_cons' ⟨b, rfl⟩ TypedL_nil'), rfl, hb, fun x c n hm => by cases hm⟩
  cases hn : num l with
  | some n =>
    rw [hn] at hm hK
    obtain ⟨rfl, rfl⟩ := hm
    exact hK
  | none =>
    rw [hn] at hm hK
    have hm : b = false := hm
    subst hm
    exact hK z hz
theorem tab_var {P : Program} {glb : List (Nat × List Sc)} {w : World} {g : Nat} {zs : List Int} {nm : String} (h : GlbOk glb w) (hf : find glb g = some (zs.map fun z => Sc.e (.int .u64 z))) (hz : zs ≠ []) (hn : P.globalNamed nm = some g) :
    w.var? P nm = some (zs.map fun z => Value.int .u64 z).toArray := by
  obtain ⟨h1, h2⟩ := h g _ hf
  obtain ⟨arr, t, fr, e1, e2⟩ := h2 (by cases zs with
    | nil => exact absurd rfl hz
    | cons z r => rfl)
  simp only [World.var?, hn, Option.bind_some, e1]
  congr 1
  apply Array.ext
  · rw [e2]; simp
  · intro j hj1 hj2
    have hj : j < zs.length := by simpa using hj2
    have := h1 j (.e (.int .u64 zs[j])) (by simp [hj]) (fun _ => 0) []
    simp only [World.cell?, e1] at this
    have h3 : arr[j]? = some (.int .u64 zs[j]) := by simpa [Sc.val, ev] using this
    rw [Array.getElem?_eq_getElem hj1] at h3
    rw [Option.some.inj h3]
    simp
end Go.Sx
namespace Go.Sx
open Go
theorem all_nil {env : List Value} : AllTrue env [] := fun h hh => by cases hh
theorem all_cons {env : List Value} {x : Ex} {l : List Ex} (h : ev env x = .bool true) (hl : AllTrue env l) : AllTrue env (x :: l) := fun y hy => by
  rcases List.mem_cons.1 hy with rfl | hy
  · exact h
  · exact hl y hy
theorem need_step {P : Program} {specs : List Spec} {nd : List Ex} {r : List Evn} {env : List Value} {K : List Value → Prop} (h : AllTrue env nd) (hr : evSat P specs r env K) : evSat P specs (.need nd :: r) env K := ⟨h, hr⟩
theorem need_if {env : List Value} {g x : Ex} (h : toB (ev env g) = true → ev env x = .bool true) : ev env (.ite g x (.bool true)) = .bool true := by
  simp only [ev]
  split
  · rename_i hg; exact h hg
  · rfl
theorem bt {p : Prop} [Decidable p] (h : p) : Value.bool (decide p) = .bool true := by rw [decide_eq_true h]
theorem bt_of {p : Prop} [Decidable p] (h : Value.bool (decide p) = .bool true) : p := of_decide_eq_true (Value.bool.inj h)
theorem bf_of {p : Prop} [Decidable p] (h : Value.bool (decide p) = .bool false) : ¬ p := of_decide_eq_false (Value.bool.inj h)
theorem callg_step {P : Program} {specs : List Spec} {k n : Nat} {ins : List Ex} {g : Ex} {r : List Evn} {env : List Value} {K : List Value → Prop} {sp : Spec} (hs : specs[k]? = some sp)
    (h1 : toB (ev env g) = true → sp (ins.map (ev env)) fun outs => evSat P specs r (env ++ outs) K) (h0 : toB (ev env g) = false → evSat P specs r (env ++ List.replicate n undef) K) : evSat P specs (.call k ins (some g) n :: r) env K := by
  simp only [evSat, hs]
  exact ⟨h1, h0⟩
theorem len_bv (l : List UInt8) : lenV (bv l) = (l.length : Int) := by
  show (((⟨l.toArray⟩ : ByteArray).size : Nat) : Int) = _
  rw [size_bv]
theorem inb_true {c : Value} {i n : Nat} (h : (i + 1) * n ≤ c.cells.size) : Value.bool (decide (0 ≤ (i : Int) ∧ ((i : Int).toNat + 1) * n ≤ c.cells.size)) = .bool true :=
  bt ⟨Int.natCast_nonneg _, h⟩
theorem strV_bv (l : List UInt8) : (strV (bv l)).data.toList = l := by simp [bv, strV]
theorem extract_bv (l : List UInt8) (a b : Nat) : Value.string ((strV (bv l)).extract a b) = bv ((l.drop a).take (b - a)) := by
  rw [bv_of, Lib.extract_data, strV_bv]
theorem scat_bv (a b : List UInt8) : Value.string (strV (bv a) ++ strV (bv b)) = bv (a ++ b) := by
  rw [bv_of, ByteArray.data_append, Array.toList_append, strV_bv, strV_bv]
theorem seq_bv (a b : List UInt8) : ((strV (bv a)).toList == (strV (bv b)).toList) = decide (a = b) := by
  have h : ∀ l : List UInt8, (strV (bv l)).toList = l := fun l => by
    rw [← strV_bv l]
    exact ByteArray.toList_eq _
  rw [h, h]
  by_cases e : a = b
  · subst e; simp
  · simp [e]
theorem byte_bv {l : List UInt8} {i : Nat} {x : UInt8} (h : l[i]? = some x) : byteV (strV (bv l)) (i : Int) = (x.toNat : Int) := by
  unfold byteV
  rw [strV_bv]
  simp [List.getD, h]
def rowI (ns : List Int) : Value := .agg (intVals ns).toArray
def u8 (c : UInt8) : Value := .int .u8 (c.toNat : Int)
theorem intVals_map : ∀ l : List Int, intVals l = l.map (Value.int .i64)
  | [] => rfl
  | z :: r => by rw [intVals, intVals_map r]; rfl
theorem rowI_size (ns : List Int) : (rowI ns).cells.size = ns.length := by
  show (intVals ns).toArray.size = _
  rw [intVals_map]; simp
theorem flat_length {α : Type} {f : α → List Value} {n : Nat} (hf : ∀ a, (f a).length = n) : ∀ l : List α, (l.flatMap f).length = l.length * n
  | [] => by simp
  | a :: r => by
    rw [List.flatMap_cons, List.length_append, hf, flat_length hf r, List.length_cons, Nat.add_mul]
    omega
theorem flat_get {α : Type} {f : α → List Value} {n : Nat} (hf : ∀ a, (f a).length = n) : ∀ {l : List α} {i j : Nat} {a : α}, l[i]? = some a → j < n → (l.flatMap f)[i * n + j]? = (f a)[j]?
  | [], i, j, a, h, _ => by simp at h
  | b :: r, 0, j, a, h, hj => by
    simp at h
    subst h
    rw [List.flatMap_cons, Nat.zero_mul, Nat.zero_add, List.getElem?_append_left (by rw [hf]; exact hj)]
  | b :: r, i + 1, j, a, h, hj => by
    rw [List.flatMap_cons, List.getElem?_append_right (by rw [hf, Nat.add_mul]; omega), hf]
    rw [show (i + 1) * n + j - n = i * n + j by rw [Nat.add_mul]; omega]
    exact flat_get hf (by simpa using h) hj
abbrev PV := Pc × Value
def cB (p : PV) : List Value := [u8 p.1.k, .tuple #[p.2, rowI p.1.ns], bv p.1.t]
def cL (p : PV) : List Value := [u8 p.1.k, .tuple #[p.2, rowI p.1.ns]]
def rowB (l : List PV) : Value := .agg (l.flatMap cB).toArray
def rowL (l : List PV) : Value := .agg (l.flatMap cL).toArray
def SlOk (p : PV) : Prop := ∃ a cap, p.2 = .slice a p.1.ns.length cap
theorem rowB_size (l : List PV) : (rowB l).cells.size = l.length * 3 := by
  show (l.flatMap cB).toArray.size = _
  rw [List.size_toArray, flat_length (n := 3) (fun _ => rfl)]
theorem rowL_size (l : List PV) : (rowL l).cells.size = l.length * 2 := by
  show (l.flatMap cL).toArray.size = _
  rw [List.size_toArray, flat_length (n := 2) (fun _ => rfl)]
theorem agg_getD {l : List Value} {k : Nat} {v : Value} (h : l[k]? = some v) : (Value.agg l.toArray).cells.getD k undef = v := by
  obtain ⟨hk, rfl⟩ := List.getElem?_eq_some_iff.1 h
  simp [Value.cells, hk]
theorem rowB_get {l : List PV} {i j : Nat} {p : PV} (h : l[i]? = some p) (hj : j < 3) {v : Value} (hv : (cB p)[j]? = some v) : (rowB l).cells.getD (i * 3 + j) undef = v :=
  agg_getD (by rw [flat_get (n := 3) (fun _ => rfl) h hj]; exact hv)
theorem rowL_get {l : List PV} {i j : Nat} {p : PV} (h : l[i]? = some p) (hj : j < 2) {v : Value} (hv : (cL p)[j]? = some v) : (rowL l).cells.getD (i * 2 + j) undef = v :=
  agg_getD (by rw [flat_get (n := 2) (fun _ => rfl) h hj]; exact hv)
theorem rowB_snoc (l : List PV) (p : PV) : Value.agg ((l.flatMap cB) ++ cB p).toArray = rowB (l ++ [p]) := by simp [rowB]
theorem rowL_snoc (l : List PV) (p : PV) : Value.agg ((l.flatMap cL) ++ cL p).toArray = rowL (l ++ [p]) := by simp [rowL]
theorem rowS_snoc (l : List (List UInt8)) (w : List UInt8) : Value.agg ((l.map bv) ++ [bv w]).toArray = rowS (l ++ [w]) := by simp [rowS]
theorem rowI_snoc (l : List Int) (n : Int) : Value.agg (intVals l ++ [Value.int .i64 n]).toArray = rowI (l ++ [n]) := by
  unfold rowI
  rw [intVals_map, intVals_map]
  simp
def SP_cut : Spec := fun ins K => ∃ s c, ins = [bv s, u8 c] ∧ s.length ≤ 2097152 ∧ ∀ a len cap, len = (cut c s).length → K [.slice a len cap, rowS (cut c s)]
def SP_one : Spec := fun ins K => ∃ s, ins = [bv s] ∧ s.length ≤ 2097152 ∧ match pieceW snum s with
  | some (k, ns) => ∀ a len cap, len = ns.length → K [u8 k, .slice a len cap, .bool true, rowI ns]
  | none => ∀ k x c, K [k, x, .bool false, c]
def SP_rp : Spec := fun ins K => ∃ s, ins = [bv s] ∧ s.length ≤ 2097152 ∧ match pieceW num s with
  | some (k, ns) => ∀ a len cap, len = ns.length → K [u8 k, .slice a len cap, bv s, .bool true, rowI ns]
  | none => ∀ k x t c, K [k, x, t, .bool false, c]
def SP_sb : Spec := fun ins K => ∃ s, ins = [bv s] ∧ match benchW s with
  | some ps => ∀ a len cap l, l.map Prod.fst = ps → (∀ p ∈ l, SlOk p) → len = ps.length → K [.slice a len cap, .bool true, rowL l]
  | none => ∀ x c, K [x, .bool false, c]
def SP_ib : Spec := fun ins K => ∃ s, ins = [bv s] ∧ s.length ≤ 2097152 ∧ match benchW s with
  | some ps => ∀ a len cap l, l.map Prod.fst = ps → (∀ p ∈ l, SlOk p) → len = ps.length → K [.slice a len cap, .bool true, rowB l]
  | none => K [.slice none 0 0, .bool false, .agg #[]]
end Go.Sx
namespace Go.Sx
open Go
structure LibV where
  m : Int
  es : Value
  er : Value
  okS : es = .nilIface ∨ ∃ te pe, es = .iface te pe
  okR : er = .nilIface ∨ ∃ te pe, er = .iface te pe
def LibV.tail (lv : LibV) (g1 g2 g3 : Nat) : List (Nat × List Sc) := [(g1, [.e (.int .i64 lv.m)]), (g2, [.e (.val lv.es)]), (g3, [.e (.val lv.er)])]
theorem glb_first {glb : List (Nat × List Sc)} {w : World} {g : Nat} {x : Ex} (h : GlbOk glb w) (hf : find glb g = some [.e x]) : w.cell? ⟨g, 0, none⟩ = some (ev [] x) :=
  (h g _ hf).1 0 (.e x) rfl (fun _ => 0) []
theorem var_below {P : Program} {w w' : World} {n : String} {cs : Array Value} (hb : RowKit.Below w.heap.size w w') (h : w.var? P n = some cs) : w'.var? P n = some cs := by
  unfold World.var? at h ⊢
  cases hg : P.globalNamed n with
  | none => rw [hg] at h; cases h
  | some g =>
    rw [hg] at h
    simp only [Option.bind_some] at h ⊢
    have hlt : g < w.heap.size := by
      rcases Nat.lt_or_ge g w.heap.size with h1 | h1
      · exact h1
      · rw [Array.getElem?_eq_none h1] at h; cases h
    rw [hb.block g hlt]
    exact h
theorem below_grow (w : World) (k : Nat) (os : Array Obj) : RowKit.Below w.heap.size w { w.drewN k with heap := (w.drewN k).heap ++ os } := by
  have e : (w.drewN k).heap = w.heap := by
    induction k with
    | zero => rfl
    | succ k ih => exact ih
  refine ⟨?_, ?_, ?_, ?_, fun j hj => ?_⟩
  · induction k with
    | zero => rfl
    | succ k ih => exact ih (by have := e; exact this)
  · induction k with
    | zero => rfl
    | succ k ih => exact ih (by have := e; exact this)
  · induction k with
    | zero => rfl
    | succ k ih => exact ih (by have := e; exact this)
  · show w.heap.size ≤ ((w.drewN k).heap ++ os).size
    rw [e, Array.size_append]; omega
  · show ((w.drewN k).heap ++ os)[j]? = _
    rw [e, Array.getElem?_append_left hj]
end Go.Sx
namespace Go.Sx
open Go
theorem glbOk_cons {g : Nat} {l : List Sc} {r : List (Nat × List Sc)} {W : World} (h : ∀ j s, l[j]? = some s → ∀ ρ env, W.cell? ⟨g, j, none⟩ = some (s.val ρ env)) (hw : Whole g l W) (hr : GlbOk r W) : GlbOk ((g, l) :: r) W := by
  intro g' l' hl
  simp only [find] at hl
  split at hl
  · rename_i he
    have he := Nat.eq_of_beq_eq_true he
    cases hl
    subst he
    exact ⟨h, hw⟩
  · exact hr g' l' hl
theorem glbOk_one {g : Nat} {x : Ex} {r : List (Nat × List Sc)} {W : World} {v : Value} (hx : ∀ env, ev env x = v) (hn : tabB [.e x] = false) (h : W.cell? ⟨g, 0, none⟩ = some v) (hr : GlbOk r W) : GlbOk ((g, [.e x]) :: r) W :=
  glbOk_cons (fun j s hj ρ env => by
    cases j with
    | zero =>
      obtain rfl : Sc.e x = s := by simpa using hj
      rw [h]
      exact congrArg some (hx env).symm
    | succ j => simp at hj) (fun hb => by rw [hn] at hb; cases hb) hr
theorem lt_of_var {P : Program} {w : World} {n : String} {g : Nat} {cs : Array Value} (hg : P.globalNamed n = some g) (h : w.var? P n = some cs) : g < w.heap.size := by
  unfold World.var? at h
  rw [hg] at h
  simp only [Option.bind_some] at h
  rcases Nat.lt_or_ge g w.heap.size with h1 | h1
  · exact h1
  · rw [Array.getElem?_eq_none h1] at h; cases h
theorem lt_of_cell {w : World} {g i : Nat} {v : Value} (h : w.cell? ⟨g, i, none⟩ = some v) : g < w.heap.size := by
  rcases Nat.lt_or_ge g w.heap.size with h1 | h1
  · exact h1
  · simp [World.cell?, Array.getElem?_eq_none h1] at h
theorem glbOk_tab {P : Program} {g : Nat} {nm : String} {zs : List Int} {r : List (Nat × List Sc)} {W : World} (hg : P.globalNamed nm = some g) (hT : Lib.TabIs P W nm .u64 zs) (hr : GlbOk r W) : GlbOk ((g, zs.map fun z => Sc.e (.int .u64 z)) :: r) W := by
  refine glbOk_cons (fun j s hj ρ env => ?_) (fun _ => ?_) hr
  · simp only [List.getElem?_map, Option.map_eq_some_iff] at hj
    obtain ⟨z, hz, rfl⟩ := hj
    have h1 := World.var?_cell hg hT j
    rw [h1]
    simp [hz, Sc.val, ev]
  · unfold Lib.TabIs World.var? at hT
    rw [hg] at hT
    simp only [Option.bind_some] at hT
    split at hT
    · rename_i cs t fr hh
      have e := Option.some.inj hT
      refine ⟨cs, t, fr, hh, ?_⟩
      rw [e]; simp
    · cases hT
theorem globs_lib {W : World} {lv : LibV} {g1 g2 g3 : Nat} (h1 : g1 < W.heap.size) (h2 : g2 < W.heap.size) (h3 : g3 < W.heap.size) : ∀ g l, find (lv.tail g1 g2 g3) g = some l → g < W.heap.size :=
  globs_cons h1 (globs_cons h2 (globs_cons h3 globs_nil))
theorem glbOk_lib {W : World} {lv : LibV} {g1 g2 g3 : Nat} (h1 : W.cell? ⟨g1, 0, none⟩ = some (.int .i64 lv.m)) (h2 : W.cell? ⟨g2, 0, none⟩ = some lv.es) (h3 : W.cell? ⟨g3, 0, none⟩ = some lv.er) : GlbOk (lv.tail g1 g2 g3) W :=
  glbOk_one (x := .int .i64 lv.m) (fun _ => rfl) rfl h1 (glbOk_one (x := .val lv.es) (fun _ => rfl) rfl h2 (glbOk_one (x := .val lv.er) (fun _ => rfl) rfl h3 glbOk_nil))
end Go.Sx
namespace Go.Sx
open Go
def sgOfG (t : TypeId) : Sig := { args := [.s (.p (.own 0) 0), .s (.e (.var 0))], pre := [⟨[.e (.var 1), .e (.var 2)], t⟩], tin := [.sl, .sl, .int .i64, .rowC [.str]], gin := [(0, 3, 1)], res := .c (.s (.e (.var 0))), post := [⟨[.e (.var 1), .e (.var 2)], t⟩], tout := [.str, .sl, .int .i64], gout := [] }
def sgOf (t ts : TypeId) : Sig := { args := [.s (.p (.own 0) 0), .s (.sl (.own 1) 0 8 8)], pre := [⟨[.e (.var 0), .e (.var 1)], t⟩, ⟨[.e (.var 2), .e (.var 3), .e (.var 4), .e (.var 5), .e (.var 6), .e (.var 7), .e (.var 8), .e (.var 9)], ts⟩], tin := [.sl, .int .i64, .str, .str, .str, .str, .str, .str, .str, .str], gin := [], res := .c (.s (.e (.var 0))), post := [⟨[.e (.var 1), .e (.var 2)], t⟩, ⟨[.e (.var 3), .e (.var 4), .e (.var 5), .e (.var 6), .e (.var 7), .e (.var 8), .e (.var 9), .e (.var 10)], ts⟩], tout := [.str, .sl, .int .i64, .str, .str, .str, .str, .str, .str, .str, .str], gout := [] }
theorem conOK_of8 {P : Program} {G : List (Nat × List Sc)} {f : Nat} {t ts : TypeId} {spG : Spec} (hc : ConOK P G f (sgOfG t) spG) :
    ConOK P G f (sgOf t ts) (fun ins K => ∃ b z c0 c1 c2 c3 c4 c5 c6 c7, ins = [b, z, c0, c1, c2, c3, c4, c5, c6, c7] ∧ ∀ q : Nat, spG [.slice (some ⟨q, 0, none⟩) 8 8, b, z, .agg #[c0, c1, c2, c3, c4, c5, c6, c7]] (fun outs => K (outs ++ [c0, c1, c2, c3, c4, c5, c6, c7]))) := by
  intro w bs ins K g hs
  obtain ⟨b, z, c0, c1, c2, c3, c4, c5, c6, c7, rfl, hs⟩ := hs
  obtain ⟨p, q, rfl⟩ : ∃ p q, bs = [p, q] := by
    have := g.len
    match bs, this with
    | [p, q], _ => exact ⟨p, q, rfl⟩
  have hb0 : w.heap[p]? = some (.cells #[b, z] t (0, 0)) := g.blk 0 _ rfl
  have hb1 : w.heap[q]? = some (.cells #[c0, c1, c2, c3, c4, c5, c6, c7] ts (0, 0)) := g.blk 1 _ rfl
  have hpq : p ≠ q := by have := g.nodup; simpa using this
  have hql : q < w.heap.size := by
    rcases Nat.lt_or_ge q w.heap.size with h | h
    · exact h
    · rw [Array.getElem?_eq_none h] at hb1; cases hb1
  have ty := g.typed
  have hst : ∀ c ∈ [c0, c1, c2, c3, c4, c5, c6, c7], HasTy .str c := by
    obtain ⟨_, _, e, _, k⟩ := TypedL_cons ty; cases e
    obtain ⟨_, _, e, _, k⟩ := TypedL_cons k; cases e
    obtain ⟨_, _, e, k0, k⟩ := TypedL_cons k; cases e
    obtain ⟨_, _, e, k1, k⟩ := TypedL_cons k; cases e
    obtain ⟨_, _, e, k2, k⟩ := TypedL_cons k; cases e
    obtain ⟨_, _, e, k3, k⟩ := TypedL_cons k; cases e
    obtain ⟨_, _, e, k4, k⟩ := TypedL_cons k; cases e
    obtain ⟨_, _, e, k5, k⟩ := TypedL_cons k; cases e
    obtain ⟨_, _, e, k6, k⟩ := TypedL_cons k; cases e
    obtain ⟨_, _, e, k7, k⟩ := TypedL_cons k; cases e
    intro c hc
    simp only [List.mem_cons, List.not_mem_nil, or_false] at hc
    rcases hc with rfl | rfl | rfl | rfl | rfl | rfl | rfl | rfl <;> assumption
  have hnf : ∀ u ∈ (#[c0, c1, c2, c3, c4, c5, c6, c7] : Array Value), noFat u := fun u hu => by
    obtain ⟨s, rfl, _⟩ := hst u (by simpa using hu)
    exact fun _ _ h => by cases h
  obtain ⟨_, _, e, tb, k⟩ := TypedL_cons ty; cases e
  obtain ⟨_, _, e, tz, k⟩ := TypedL_cons k; cases e
  have g' : Given G (sgOfG t) [p] [.slice (some ⟨q, 0, none⟩) 8 8, b, z, .agg #[c0, c1, c2, c3, c4, c5, c6, c7]] w :=
    { glob := g.glob
      globbs := fun k l h => ⟨(g.globbs k l h).1, fun hm => (g.globbs k l h).2 (by simp only [List.mem_cons, List.not_mem_nil, or_false] at hm ⊢; exact .inl hm)⟩
      len := rfl
      nodup := by simp
      typed := TypedL_cons' ⟨_, _, _, rfl, by decide⟩ (TypedL_cons' tb (TypedL_cons' tz (TypedL_cons' ⟨_, rfl, ⟨8, rfl⟩, fun i hi c hc => by
        have hc : c = .str := by
          have : i % 1 = 0 := by omega
          simp [this] at hc
          exact hc.symm
        subst hc
        exact hst _ (by have := Array.getElem_mem hi; simp only [List.mem_toArray] at this; exact this)⟩ TypedL_nil')))
      blk := fun k blk hk => by
        cases k with
        | zero =>
          have e : blk = ⟨[.e (.var 1), .e (.var 2)], t⟩ := by simpa [sgOfG] using hk.symm
          subst e
          exact hb0
        | succ k => simp [sgOfG] at hk
      rows := fun x c m hm => by
        have : (x, c, m) = (0, 3, 1) := List.mem_singleton.1 hm
        cases this
        refine ⟨RowOk.plain hnf (.inr ⟨⟨q, 0, none⟩, 8, 8, rfl, rfl, by simp, hql, fun j hj => ?_⟩), fun k hk hbk => ?_⟩
        · show w.cell? ⟨q, 0 + j, none⟩ = _
          simp only [World.cell?, hb1, Nat.zero_add]
          exact Array.getElem?_eq_getElem hj
        · obtain ⟨a, l, c, e, he⟩ := BlkOf.plain (x := .slice (some ⟨q, 0, none⟩) 8 8) (c := .agg #[c0, c1, c2, c3, c4, c5, c6, c7]) hnf hbk
          have e : Value.slice (some ⟨q, 0, none⟩) 8 8 = .slice (some a) l c := e
          cases e
          have hk : k = p := by simpa using hk
          exact hpq (hk.symm.trans he.symm) }
  refine (hc w [p] _ _ g' (hs q)).mono ?_
  rintro e w' ⟨outs, bs', v, rfl, L⟩
  obtain ⟨p', rfl⟩ : ∃ p', bs' = [p'] := by
    have := L.len
    match bs', this with
    | [p'], _ => exact ⟨p', rfl⟩
  obtain rfl : p' = p := L.old 0 (by simp)
  have lt := L.typed
  obtain ⟨r, _, rfl, tr, k⟩ := TypedL_cons lt
  obtain ⟨b', _, rfl, tb', k⟩ := TypedL_cons k
  obtain ⟨z', _, rfl, tz', k⟩ := TypedL_cons k
  obtain rfl := TypedL_nil k
  refine ⟨[r, b', z'] ++ [c0, c1, c2, c3, c4, c5, c6, c7], [p', q], v, rfl, ?_⟩
  exact
    { post := L.post
      typed := TypedL_cons' tr (TypedL_cons' tb' (TypedL_cons' tz' (TypedL_cons' (hst _ (by simp)) (TypedL_cons' (hst _ (by simp)) (TypedL_cons' (hst _ (by simp)) (TypedL_cons' (hst _ (by simp)) (TypedL_cons' (hst _ (by simp)) (TypedL_cons' (hst _ (by simp)) (TypedL_cons' (hst _ (by simp)) (TypedL_cons' (hst _ (by simp)) TypedL_nil'))))))))))
      len := rfl
      old := fun k _ => rfl
      new := fun k h1 h2 => absurd h2 (Nat.not_lt.2 h1)
      nodup := by simpa using hpq
      res := L.res
      blk := fun k blk hk => by
        match k, hk with
        | 0, hk =>
          have e : blk = ⟨[.e (.var 1), .e (.var 2)], t⟩ := by simpa [sgOf] using hk.symm
          subst e
          exact L.blk 0 _ rfl
        | 1, hk =>
          have e : blk = ⟨[.e (.var 3), .e (.var 4), .e (.var 5), .e (.var 6), .e (.var 7), .e (.var 8), .e (.var 9), .e (.var 10)], ts⟩ := by simpa [sgOf] using hk.symm
          subst e
          exact (L.frame q hql (by simpa using hpq.symm)).trans hb1
        | k + 2, hk => simp [sgOf] at hk
      rows := fun x c n hm => by cases hm
      os := L.os
      tape := L.tape
      output := L.output
      size := L.size
      frame := fun k h1 h2 => L.frame k h1 (by simp at h2 ⊢; exact h2.1) }
end Go.Sx
namespace Go.Sx
open Go
def Sh (n : Nat) (v : Value) : Prop := ∃ l, v = bv l ∧ l.length ≤ n
theorem sh_mono {m n : Nat} {v : Value} (h : Sh m v) (hn : m ≤ n) : Sh n v := by
  obtain ⟨l, e, h⟩ := h
  exact ⟨l, e, Nat.le_trans h hn⟩
theorem sh_c (l : List UInt8) : Sh l.length (Value.string ⟨l.toArray⟩) := ⟨l, rfl, Nat.le_refl _⟩
theorem sh_cat {m n : Nat} {x y : Value} (hx : Sh m x) (hy : Sh n y) : Sh (m + n) (.string (strV x ++ strV y)) := by
  obtain ⟨a, rfl, ha⟩ := hx
  obtain ⟨b, rfl, hb⟩ := hy
  exact ⟨a ++ b, scat_bv a b, by rw [List.length_append]; omega⟩
theorem sh_scat {m n : Nat} {env : List Value} {x y : Ex} (hx : Sh m (ev env x)) (hy : Sh n (ev env y)) : Sh (m + n) (ev env (.scat x y)) := sh_cat hx hy
theorem sh_itoa {n : Int} (h : -1000 < n) (h' : n < 10000) : Sh 4 (bv (Lib.itoa n)) := ⟨_, rfl, itoa_len h h'⟩
theorem need_sh {m n : Nat} {env : List Value} {x y : Ex} (hx : Sh m (ev env x)) (hy : Sh n (ev env y)) (h : m + n ≤ 1000000) : ev env (.cmp .leq (.len x) (.ar .sub .i64 (.int .i64 9223372036854775807) (.len y))) = .bool true := by
  obtain ⟨a, ea, ha⟩ := hx
  obtain ⟨b, eb, hb⟩ := hy
  have e1 : lenV (ev env x) = (a.length : Int) := by rw [ea, len_bv]
  have e2 : lenV (ev env y) = (b.length : Int) := by rw [eb, len_bv]
  show Value.bool (decide (lenV (ev env x) ≤ IntKind.i64.wrap (9223372036854775807 - lenV (ev env y)))) = _
  rw [e1, e2, wrap_in (by omega)]
  exact bt (by omega)
theorem needs_sh {P : Program} {specs : List Spec} {r : List Evn} {m n : Nat} {env : List Value} {K : List Value → Prop} {x y : Ex} (hx : Sh m (ev env x)) (hy : Sh n (ev env y)) (h : m + n ≤ 1000000) (hr : evSat P specs r env K) : evSat P specs (.need [.cmp .leq (.len x) (.ar .sub .i64 (.int .i64 9223372036854775807) (.len y))] :: r) env K :=
  need_step (all_cons (need_sh hx hy h) all_nil) hr
theorem ar_add {env : List Value} {x y : Ex} {a b : Int} (hx : ev env x = .int .i64 a) (hy : ev env y = .int .i64 b) (h : -1000000 ≤ a + b ∧ a + b ≤ 1000000) : ev env (.ar .add .i64 x y) = .int .i64 (a + b) := by
  show Value.int .i64 (IntKind.i64.wrap (toI (ev env x) + toI (ev env y))) = _
  rw [hx, hy]
  show Value.int .i64 (IntKind.i64.wrap (a + b)) = _
  rw [wrap_in (by omega)]
theorem ar_sub {env : List Value} {x y : Ex} {a b : Int} (hx : ev env x = .int .i64 a) (hy : ev env y = .int .i64 b) (h : -1000000 ≤ a - b ∧ a - b ≤ 1000000) : ev env (.ar .sub .i64 x y) = .int .i64 (a - b) := by
  show Value.int .i64 (IntKind.i64.wrap (toI (ev env x) - toI (ev env y))) = _
  rw [hx, hy]
  show Value.int .i64 (IntKind.i64.wrap (a - b)) = _
  rw [wrap_in (by omega)]
theorem dec_step1 {P : Program} {specs : List Spec} {j : Nat} (hs : specs[j]? = some SP_itoa) {nE : Ex} {r : List Evn} {env : List Value} {K : List Value → Prop} (n : Int) (en : ev env nE = .int .i64 n) (hn : -1000 < n ∧ n < 10000)
    (h : ∀ v, Sh 4 v → evSat P specs r (env ++ [v]) K) : evSat P specs (.call j [nE] none 1 :: r) env K := by
  refine call_step hs ⟨n, ?_, h _ (sh_itoa hn.1 hn.2)⟩
  show [ev env nE] = _
  rw [en]
def drawT (cb : CodeB) (len far : Nat) (top : Int) : Spec := fun ins K => ∃ f b z, ins = [.bool f, b, .int .i64 z] ∧ goodSl cb b ∧ 0 ≤ z ∧ z ≤ top ∧
  ∀ v b' z', Sh len v → goodSl cb b' → 0 ≤ z' → z' ≤ z + far → K [v, b', .int .i64 z']
def benchDraw (cb : CodeB) : Spec := fun ins K => drawPre cb ins ∧ ∀ v, Sh 200 v → K [v]
theorem law_bench {P : Program} {cb : CodeB} {specs : List Spec} {t : Tr} {n : Nat} {ins : List Value} {K : List Value → Prop}
    (h : ∀ v l, l.length ≤ 200 → sat P (benchDraw cb :: specs) t [v, bv l] [] K)
    (hp : (lawF cb).pre ins) (hK : K [.bool true]) :
    sat P (benchDraw cb :: specs) (.ite (.cmp .gtr (.len (.var 0)) (.int .i64 1048576)) (.ret [.bool true]) (.evs [.call 0 [.var 0] none n] t)) ins [] K := by
  obtain ⟨a, m, cap, rfl, hm, hg⟩ := hp
  refine ⟨fun _ => hK, fun hc => ?_⟩
  have hm2 : m ≤ 1048576 := by
    have hc : Value.bool (decide ((m : Int) > 1048576)) = .bool false := hc
    simp only [Value.bool.injEq, decide_eq_false_iff_not] at hc
    omega
  refine evs_step (call_step rfl ⟨⟨_, rfl, hg hm2⟩, ?_⟩)
  rintro v ⟨l, rfl, hl⟩
  exact evs_nil (h _ l hl)
def ofSpecG (cb : CodeB) : Spec := fun ins K => ∃ q b z c0 c1 c2 c3 c4 c5 c6 c7, ins = [.slice (some ⟨q, 0, none⟩) 8 8, b, .int .i64 z, .agg #[c0, c1, c2, c3, c4, c5, c6, c7]] ∧ goodSl cb b ∧ 0 ≤ z ∧ z ≤ 200000 ∧
  (∀ c ∈ [c0, c1, c2, c3, c4, c5, c6, c7], Sh 8 c) ∧ ∀ v b' z', Sh 8 v → goodSl cb b' → 0 ≤ z' → z' ≤ z + 1 → K [v, b', .int .i64 z']
def ofSpec (cb : CodeB) : Spec := fun ins K => ∃ b z c0 c1 c2 c3 c4 c5 c6 c7, ins = [b, .int .i64 z, c0, c1, c2, c3, c4, c5, c6, c7] ∧ goodSl cb b ∧ 0 ≤ z ∧ z ≤ 200000 ∧
  (∀ c ∈ [c0, c1, c2, c3, c4, c5, c6, c7], Sh 8 c) ∧ ∀ v b' z', Sh 8 v → goodSl cb b' → 0 ≤ z' → z' ≤ z + 1 → K [v, b', .int .i64 z', c0, c1, c2, c3, c4, c5, c6, c7]
theorem conOK_of8d {P : Program} {G : List (Nat × List Sc)} {f : Nat} {t ts : TypeId} {cb : CodeB} (hc : ConOK P G f (sgOfG t) (ofSpecG cb)) : ConOK P G f (sgOf t ts) (ofSpec cb) := by
  intro w bs ins K g ⟨b, z, c0, c1, c2, c3, c4, c5, c6, c7, e, h1, h2, h3, h4, h5⟩
  exact conOK_of8 hc w bs ins K g ⟨b, _, c0, c1, c2, c3, c4, c5, c6, c7, e, fun q => ⟨q, b, z, c0, c1, c2, c3, c4, c5, c6, c7, rfl, h1, h2, h3, h4, fun v b' z' q1 q2 q3 q4 => h5 v b' z' q1 q2 q3 q4⟩⟩
end Go.Sx
namespace Go.Sx
open Go Go.RowKit
def NoU8 (W : World) (g : Nat) : Prop := ∀ i z, W.cell? ⟨g, i, none⟩ ≠ some (.int .u8 z)
theorem noU8_var {P : Program} {W : World} {n : String} {g : Nat} {cs : Array Value} (hg : P.globalNamed n = some g) (hv : W.var? P n = some cs) (h : ∀ (v : Value), v ∈ cs → ∀ z, v ≠ .int .u8 z) : NoU8 W g := by
  intro i z hi
  rw [World.var?_cell hg hv i] at hi
  exact h _ (Array.mem_of_getElem? hi) z rfl
theorem noU8_tab {P : Program} {W : World} {n : String} {g : Nat} {zs : List Int} (hg : P.globalNamed n = some g) (hT : Lib.TabIs P W n .u64 zs) : NoU8 W g :=
  noU8_var hg hT fun v hv z e => by
    simp only [List.mem_toArray, List.mem_map] at hv
    obtain ⟨y, _, rfl⟩ := hv
    cases e
theorem noU8_iface {P : Program} {W : World} {n : String} {g : Nat} {tp : TypeId} {p : Value} (hg : P.globalNamed n = some g) (hv : W.var? P n = some #[.iface tp p]) : NoU8 W g :=
  noU8_var hg hv fun v hm z e => by
    simp only [List.mem_toArray, List.mem_singleton] at hm
    subst hm
    cases e
theorem noU8_shape {P : Program} {W : World} {g : Nat} {t : TypeId} {zero : Array Value} {m : Int} (h : W.ShapedOpen P) (hg : g < P.globals.size)
    (h0 : ((begin P (fun _ _ => 0) default).world.heap[g]?).bind Obj.row? = some (zero, t)) (hz : zero.size = 1) (hm : W.cell? ⟨g, 0, none⟩ = some (.int .i64 m)) : NoU8 W g := by
  obtain ⟨cs, hh, hs, _⟩ := h.1 g zero t hg h0
  intro i z hi
  by_cases h0 : i = 0
  · subst h0
    rw [hm] at hi
    cases hi
  · have : W.cell? ⟨g, i, none⟩ = none := by
      simp only [World.cell?, hh]
      exact Array.getElem?_eq_none (by omega)
    rw [this] at hi
    cases hi
theorem known_no {W : World} {G : List (Nat × List Sc)} {cb : CodeB} (h : ∀ k a, (k, a) ∈ G → NoU8 W k) (hb : cb.any = true → cb.blk < W.heap.size ∧ (cb.cells ≠ [] → ∃ i z, W.cell? ⟨cb.blk, i, none⟩ = some (.int .u8 z))) : Known cb (G ++ cb.tail) := by
  refine tail_known fun ha hc k a hm hk => ?_
  obtain ⟨i, z, hz⟩ := (hb ha).2 hc
  rw [← hk] at hz
  exact h k a hm i z hz
end Go.Sx
namespace Go.Sx
open Go Go.ChangeShapes Go.RowKit
section
variable {H : Type} {enc : TypeId × Value → H} {P : Program}
theorem four_cells {w : World} {base : Nat} {spare : Nat → Bool} {held : Bool} {t e : TypeId} {g0 g1 g2 : Field} {fuel : Nat} {cs : List Value} {a0 b0 c0 a1 b1 c1 a2 b2 c2 a3 b3 c3 : Int} {p : List MemPlace} (hf : P.underlying t = some (.array 4 e)) (he : P.underlying e = some (.struct #[g0, g1, g2]))
    (e0 : P.underlying g0.type = some (.int .i64)) (e1 : P.underlying g1.type = some (.int .i64)) (e2 : P.underlying g2.type = some (.int .i64)) (o0 : g0.offset = 0) (o1 : g1.offset = 1) (o2 : g2.offset = 2)
    (k0 : P.cellsOf g0.type = 1) (k1 : P.cellsOf g1.type = 1) (k2 : P.cellsOf g2.type = 1) (ke : P.cellsOf e = 3) (kt : P.cellsOf t = 12)
    (h : DataW.trod enc P w base spare held fuel t cs = some (.agg [fr a0 b0 c0, fr a1 b1 c1, fr a2 b2 c2, fr a3 b3 c3], p)) : cs = intVals [a0, b0, c0, a1, b1, c1, a2, b2, c2, a3, b3, c3] := by
  obtain ⟨xs, m, _, hyx, hl2, hlen, hel⟩ := DataW.trod_array hf h
  have hl : cs.length = 12 := by omega
  have hy1 : DataW.agg (xs.map (·.1)) = .agg [fr a0 b0 c0, fr a1 b1 c1, fr a2 b2 c2, fr a3 b3 c3] := congrArg Prod.fst hyx.symm
  simp only [DataW.agg.injEq] at hy1
  have r0 := hel 0 (by omega)
  have r1 := hel 1 (by omega)
  have r2 := hel 2 (by omega)
  have r3 := hel 3 (by omega)
  rw [ke] at r0 r1 r2 r3
  match xs, hlen, hy1, r0, r1, r2, r3 with
  | [x0, x1, x2, x3], _, hy1, r0, r1, r2, r3 =>
    simp only [List.map_cons, List.map_nil, List.cons.injEq, and_true] at hy1
    obtain ⟨q0, q1, q2, q3⟩ := hy1
    have s0 := three_cells (p := x0.2) (a := a0) (b := b0) (c := c0) he e0 e1 e2 o0 o1 o2 k0 k1 k2 ke (r0.trans (congrArg some (Prod.ext q0 rfl)))
    have s1 := three_cells (p := x1.2) (a := a1) (b := b1) (c := c1) he e0 e1 e2 o0 o1 o2 k0 k1 k2 ke (r1.trans (congrArg some (Prod.ext q1 rfl)))
    have s2 := three_cells (p := x2.2) (a := a2) (b := b2) (c := c2) he e0 e1 e2 o0 o1 o2 k0 k1 k2 ke (r2.trans (congrArg some (Prod.ext q2 rfl)))
    have s3 := three_cells (p := x3.2) (a := a3) (b := b3) (c := c3) he e0 e1 e2 o0 o1 o2 k0 k1 k2 ke (r3.trans (congrArg some (Prod.ext q3 rfl)))
    match cs, hl with
    | [v0, v1, v2, v3, v4, v5, v6, v7, v8, v9, v10, v11], _ =>
      simp at s0 s1 s2 s3
      simp only [intVals]
      simp [s0, s1, s2, s3]
theorem laid_four {W : World} {name : String} {g : Nat} {t e : TypeId} {g0 g1 g2 : Field} {a0 b0 c0 a1 b1 c1 a2 b2 c2 a3 b3 c3 : Int} {rest : List (String × DataW Unit)} {ps : List MemPlace}
    (h : DataW.LaidVars P W ((name, .agg [fr a0 b0 c0, fr a1 b1 c1, fr a2 b2 c2, fr a3 b3 c3]) :: rest) ps)
    (hg : P.globalNamed name = some g) (hty : (P.globals[g]?).map (·.type) = some t) (hf : P.underlying t = some (.array 4 e)) (he : P.underlying e = some (.struct #[g0, g1, g2]))
    (e0 : P.underlying g0.type = some (.int .i64)) (e1 : P.underlying g1.type = some (.int .i64)) (e2 : P.underlying g2.type = some (.int .i64)) (o0 : g0.offset = 0) (o1 : g1.offset = 1) (o2 : g2.offset = 2)
    (k0 : P.cellsOf g0.type = 1) (k1 : P.cellsOf g1.type = 1) (k2 : P.cellsOf g2.type = 1) (ke : P.cellsOf e = 3) (kt : P.cellsOf t = 12) :
    g < W.heap.size ∧ (∀ i v, (intVals [a0, b0, c0, a1, b1, c1, a2, b2, c2, a3, b3, c3])[i]? = some v → W.cell? ⟨g, i, none⟩ = some v) ∧ ∃ q, DataW.LaidVars P W rest q := by
  obtain ⟨g', t', cs, fuel, p, q, hg', hty', hv, hd, hr, _⟩ := h
  obtain rfl := Option.some.inj (hg.symm.trans hg')
  obtain rfl := Option.some.inj (hty.symm.trans hty')
  have hcs := four_cells hf he e0 e1 e2 o0 o1 o2 k0 k1 k2 ke kt hd
  refine ⟨var_lt hg hv, fun i v hi => ?_, q, hr⟩
  rw [World.var?_cell hg hv i, ← hi, ← hcs]
  simp
end
end Go.Sx
namespace Go.Sx
open Go
set_option linter.unusedVariables false
set_option linter.unusedSimpArgs false
def RM.p (m : RM) : Nat → Rat
  | 0 => m.p0
  | 1 => m.p1
  | 2 => m.p2
  | _ => m.p3
def RM.q (m : RM) : Nat → Rat
  | 0 => m.q0
  | 1 => m.q1
  | 2 => m.q2
  | _ => m.q3
def RM.adj (a : RM) : RM := ⟨a.p0, a.p2, a.p1, a.p3, -a.q0, -a.q2, -a.q1, -a.q3⟩
theorem RM.adj_mul (a b : RM) : (a.mul b).adj = b.adj.mul a.adj := by
  cases a; cases b
  apply RM.eq <;> simp only [RM.mul, RM.adj] <;> grind
theorem RM.adj_adj (a : RM) : a.adj.adj = a := by
  cases a
  apply RM.eq <;> simp only [RM.adj] <;> grind
def RM.U (m : RM) : Prop := m.mul m.adj = RM.one ∧ m.adj.mul m = RM.one
theorem RM.U_mul {a b : RM} (ha : a.U) (hb : b.U) : (a.mul b).U := by
  constructor
  · rw [RM.adj_mul, RM.assoc, ← RM.assoc b, hb.1, RM.one_mul, ha.1]
  · rw [RM.adj_mul, RM.assoc, ← RM.assoc a.adj, ha.2, RM.one_mul, hb.2]
theorem RM.U_adj {a : RM} (h : a.U) : a.adj.U := ⟨by rw [RM.adj_adj]; exact h.2, by rw [RM.adj_adj]; exact h.1⟩
def rotM (c s : Rat) : RM := ⟨c, -s, s, c, 0, 0, 0, 0⟩
theorem rot_U {c s : Rat} (h : c * c + s * s = 1) : (rotM c s).U := by
  constructor <;> apply RM.eq <;> simp only [RM.mul, RM.adj, RM.one, rotM] <;> grind
def diagM (x y : Rat) : RM := ⟨1, 0, 0, x, 0, 0, 0, y⟩
theorem diag_U {x y : Rat} (h : x * x + y * y = 1) : (diagM x y).U := by
  constructor <;> apply RM.eq <;> simp only [RM.mul, RM.adj, RM.one, diagM] <;> grind
def filM (c s : Rat) : RM := ⟨c * c, c * s, c * s, s * s, 0, 0, 0, 0⟩
def scaM (a : Rat) : RM := ⟨a, 0, 0, a, 0, 0, 0, 0⟩
structure RV where
  a : Rat
  b : Rat
  c : Rat
  d : Rat
theorem RV.eq {x y : RV} (h0 : x.a = y.a) (h1 : x.b = y.b) (h2 : x.c = y.c) (h3 : x.d = y.d) : x = y := by
  cases x; cases y; simp_all
def RM.app (m : RM) (v : RV) : RV :=
  ⟨m.p0 * v.a - m.q0 * v.b + (m.p1 * v.c - m.q1 * v.d), m.p0 * v.b + m.q0 * v.a + (m.p1 * v.d + m.q1 * v.c),
   m.p2 * v.a - m.q2 * v.b + (m.p3 * v.c - m.q3 * v.d), m.p2 * v.b + m.q2 * v.a + (m.p3 * v.d + m.q3 * v.c)⟩
theorem RM.app_mul (m n : RM) (v : RV) : (m.mul n).app v = m.app (n.app v) := by
  cases m; cases n; cases v
  apply RV.eq <;> simp only [RM.mul, RM.app] <;> grind
theorem RM.app_one (v : RV) : RM.one.app v = v := by
  cases v
  apply RV.eq <;> simp only [RM.one, RM.app] <;> grind
def ofV (x y : Q) : RV := ⟨reR x, imR x, reR y, imR y⟩
def RV.sf (v : RV) : Nat → Rat := Go.Sx.sf v.a v.b v.c v.d
def ta (t s : Nat → Rat) (r : Nat) : Rat := t (4 * r + 0) * s 0 + t (4 * r + 1) * s 1 + t (4 * r + 2) * s 2 + t (4 * r + 3) * s 3
def tmul (a b : Nat → Rat) (k : Nat) : Rat := a (4 * (k / 4) + 0) * b (4 * 0 + k % 4) + a (4 * (k / 4) + 1) * b (4 * 1 + k % 4) + a (4 * (k / 4) + 2) * b (4 * 2 + k % 4) + a (4 * (k / 4) + 3) * b (4 * 3 + k % 4)
theorem ta_congr {t t' s s' : Nat → Rat} (ht : ∀ k, k < 16 → t k = t' k) (hs : ∀ k, k < 4 → s k = s' k) : ∀ r, r < 4 → ta t s r = ta t' s' r := by
  intro r hr
  unfold ta
  rw [ht _ (by omega), ht _ (by omega), ht _ (by omega), ht _ (by omega), hs 0 (by omega), hs 1 (by omega), hs 2 (by omega), hs 3 (by omega)]
theorem ta_tmul (a b s : Nat → Rat) : ∀ r, r < 4 → ta (tmul a b) s r = ta a (ta b s) r := by
  refine get4 ?_ ?_ ?_ ?_ <;>
  · simp only [ta, tmul, Nat.reduceMul, Nat.reduceAdd, Nat.reduceDiv, Nat.reduceMod]
    grind
def Light (s : Nat → Rat) : Prop := 0 ≤ s 0 ∧ s 1 * s 1 + s 2 * s 2 + s 3 * s 3 ≤ s 0 * s 0
theorem light_congr {s s' : Nat → Rat} (h : ∀ k, k < 4 → s k = s' k) (hl : Light s) : Light s' := by
  unfold Light at *
  rw [← h 0 (by omega), ← h 1 (by omega), ← h 2 (by omega), ← h 3 (by omega)]
  exact hl
theorem light_sf (a b c d : Rat) : Light (sf a b c d) := by
  have h1 := sq_nn a
  have h2 := sq_nn b
  have h3 := sq_nn c
  have h4 := sq_nn d
  unfold Light
  simp only [sf]
  constructor <;> grind
theorem form_nn {A B C D p0 q0 p1 q1 : Rat} (hA : 0 ≤ A) (hB : 0 ≤ B) (h : C * C + D * D ≤ A * B) :
    0 ≤ A * (p0 * p0 + q0 * q0) + B * (p1 * p1 + q1 * q1) + 2 * (C * (p0 * p1 + q0 * q1)) + 2 * (D * (p0 * q1 - q0 * p1)) := by
  have n1 := sq_nn p1
  have n2 := sq_nn q1
  by_cases hz : A = 0
  · subst hz
    have c1 := sq_nn C
    have d1 := sq_nn D
    have hC : C * C = 0 := by grind
    have hD : D * D = 0 := by grind
    have hC : C = 0 := by rcases Rat.mul_eq_zero.1 hC with h | h <;> exact h
    have hD : D = 0 := by rcases Rat.mul_eq_zero.1 hD with h | h <;> exact h
    have := Rat.mul_nonneg hB (show 0 ≤ p1 * p1 + q1 * q1 by grind)
    rw [hC, hD]
    grind
  · have hA' : 0 < A := by grind
    have s1 := sq_nn (A * p0 + C * p1 + D * q1)
    have s2 := sq_nn (A * q0 + C * q1 - D * p1)
    have s3 := Rat.mul_nonneg (show 0 ≤ A * B - (C * C + D * D) by grind) (show 0 ≤ p1 * p1 + q1 * q1 by grind)
    have e : A * (A * (p0 * p0 + q0 * q0) + B * (p1 * p1 + q1 * q1) + 2 * (C * (p0 * p1 + q0 * q1)) + 2 * (D * (p0 * q1 - q0 * p1))) =
      (A * p0 + C * p1 + D * q1) * (A * p0 + C * p1 + D * q1) + (A * q0 + C * q1 - D * p1) * (A * q0 + C * q1 - D * p1) + (A * B - (C * C + D * D)) * (p1 * p1 + q1 * q1) := by grind
    refine Rat.le_of_mul_le_mul_left (c := A) ?_ hA'
    rw [e, Rat.mul_zero]
    grind
theorem tf_light (p q : Nat → Rat) {s : Nat → Rat} (h : Light s) : Light (ta (tf p q) s) := by
  obtain ⟨h0, h1⟩ := h
  have hA : 0 ≤ s 0 + s 1 := by
    have n2 := sq_nn (s 2)
    have n3 := sq_nn (s 3)
    by_cases hh : 0 ≤ s 0 + s 1
    · exact hh
    · exfalso
      have : 0 < (-(s 0 + s 1)) * (s 0 - s 1) := Rat.mul_pos (by grind) (by grind)
      grind
  have hB : 0 ≤ s 0 - s 1 := by
    have n2 := sq_nn (s 2)
    have n3 := sq_nn (s 3)
    by_cases hh : 0 ≤ s 0 - s 1
    · exact hh
    · exfalso
      have : 0 < (-(s 0 - s 1)) * (s 0 + s 1) := Rat.mul_pos (by grind) (by grind)
      grind
  have hAB : s 2 * s 2 + s 3 * s 3 ≤ (s 0 + s 1) * (s 0 - s 1) := by grind
  have r0 := form_nn (p0 := p 0) (q0 := q 0) (p1 := p 1) (q1 := q 1) hA hB hAB
  have r1 := form_nn (p0 := p 2) (q0 := q 2) (p1 := p 3) (q1 := q 3) hA hB hAB
  constructor
  · simp only [ta, tf, tn, tr', ti, Nat.reduceMul, Nat.reduceAdd]
    grind
  · have d1 := sq_nn (dre p q)
    have d2 := sq_nn (dim p q)
    have hd := Rat.mul_nonneg (show 0 ≤ dre p q * dre p q + dim p q * dim p q by grind) (show 0 ≤ s 0 * s 0 - (s 1 * s 1 + s 2 * s 2 + s 3 * s 3) by grind)
    have e : ta (tf p q) s 0 * ta (tf p q) s 0 - (ta (tf p q) s 1 * ta (tf p q) s 1 + ta (tf p q) s 2 * ta (tf p q) s 2 + ta (tf p q) s 3 * ta (tf p q) s 3) =
      (dre p q * dre p q + dim p q * dim p q) * (s 0 * s 0 - (s 1 * s 1 + s 2 * s 2 + s 3 * s 3)) := by
      clear d1 d2 hd r0 r1 hA hB hAB h0 h1
      simp only [ta, tf, tn, tr', ti, dre, dim, Nat.reduceMul, Nat.reduceAdd]
      generalize p 0 = p0
      generalize p 1 = p1
      generalize p 2 = p2
      generalize p 3 = p3
      generalize q 0 = q0
      generalize q 1 = q1
      generalize q 2 = q2
      generalize q 3 = q3
      generalize s 0 = s0
      generalize s 1 = s1
      generalize s 2 = s2
      generalize s 3 = s3
      grind
    rw [← e] at hd
    grind
def Good (t : Nat → Rat) : Prop := ∀ s, Light s → Light (ta t s) ∧ ta t s 0 ≤ s 0
theorem good_congr {t t' : Nat → Rat} (h : ∀ k, k < 16 → t k = t' k) (hg : Good t) : Good t' := by
  intro s hs
  obtain ⟨h1, h2⟩ := hg s hs
  have e := ta_congr (s := s) h (fun _ _ => rfl)
  exact ⟨light_congr e h1, by rw [← e 0 (by omega)]; exact h2⟩
theorem good_mul {a b : Nat → Rat} (ha : Good a) (hb : Good b) : Good (tmul a b) := by
  intro s hs
  obtain ⟨h1, h2⟩ := hb s hs
  obtain ⟨h3, h4⟩ := ha _ h1
  have e := ta_tmul a b s
  refine ⟨light_congr (fun k hk => (e k hk).symm) h3, ?_⟩
  rw [e 0 (by omega)]
  exact Rat.le_trans h4 h2
def unitT : Nat → Rat := fun k => if k % 5 = 0 then 1 else 0
theorem ta_unit (s : Nat → Rat) : ∀ r, r < 4 → ta unitT s r = s r := by
  refine get4 ?_ ?_ ?_ ?_ <;>
  · simp only [ta, unitT, Nat.reduceMul, Nat.reduceAdd, Nat.reduceMod, if_true, if_false, Nat.reduceEqDiff, reduceCtorEq, Nat.one_ne_zero]
    grind
theorem good_unit : Good unitT := fun s hs => ⟨light_congr (fun k hk => (ta_unit s k hk).symm) hs, by rw [ta_unit s 0 (by omega)]; exact Rat.le_refl⟩
def fadeT (c : Rat) : Nat → Rat := fun k => if k = 0 then 1 else if k % 5 = 0 then c else 0
theorem good_fade {c : Rat} (h0 : 0 ≤ c) (h1 : c ≤ 1) : Good (fadeT c) := by
  rintro s ⟨l0, l1⟩
  have e : ∀ r, r < 4 → ta (fadeT c) s r = if r = 0 then s 0 else c * s r := by
    refine get4 ?_ ?_ ?_ ?_ <;>
    · simp only [ta, fadeT, Nat.reduceMul, Nat.reduceAdd, Nat.reduceMod, if_true, if_false, Nat.reduceEqDiff, reduceCtorEq, Nat.one_ne_zero]
      grind
  have e0 : ta (fadeT c) s 0 = s 0 := (e 0 (by omega)).trans (if_pos rfl)
  have e1 : ta (fadeT c) s 1 = c * s 1 := (e 1 (by omega)).trans (if_neg (by omega))
  have e2 : ta (fadeT c) s 2 = c * s 2 := (e 2 (by omega)).trans (if_neg (by omega))
  have e3 : ta (fadeT c) s 3 = c * s 3 := (e 3 (by omega)).trans (if_neg (by omega))
  refine ⟨⟨by rw [e0]; exact l0, ?_⟩, by rw [e0]; exact Rat.le_refl⟩
  rw [e0, e1, e2, e3]
  have n1 := sq_nn (s 1)
  have n2 := sq_nn (s 2)
  have n3 := sq_nn (s 3)
  have hc : 0 ≤ 1 - c * c := by
    have := Rat.mul_nonneg (show 0 ≤ 1 - c by grind) (show 0 ≤ 1 + c by grind)
    grind
  have := Rat.mul_nonneg hc (show 0 ≤ s 1 * s 1 + s 2 * s 2 + s 3 * s 3 by grind)
  grind
def RM.tf (m : RM) : Nat → Rat := Go.Sx.tf m.p m.q
theorem tf_mul (a b : RM) : ∀ k, k < 16 → (a.mul b).tf k = tmul a.tf b.tf k := by
  intro k hk
  have h := tf_times a.p a.q b.p b.q k hk
  refine Eq.trans (tf_congr ?_ ?_ k hk) h
  · refine get4 ?_ ?_ ?_ ?_ <;> simp only [RM.mul, RM.p, RM.q, mp, Nat.reduceMul, Nat.reduceDiv, Nat.reduceMod, Nat.reduceAdd]
  · refine get4 ?_ ?_ ?_ ?_ <;> simp only [RM.mul, RM.p, RM.q, mq, Nat.reduceMul, Nat.reduceDiv, Nat.reduceMod, Nat.reduceAdd] <;> grind
theorem tf_one : ∀ k, k < 16 → RM.one.tf k = unitT k := by
  refine get16 ?_ ?_ ?_ ?_ ?_ ?_ ?_ ?_ ?_ ?_ ?_ ?_ ?_ ?_ ?_ ?_ <;> decide +kernel
theorem sf_app (m : RM) (v : RV) : ∀ r, r < 4 → (m.app v).sf r = ta m.tf v.sf r := by
  intro r hr
  exact tf_apply m.p m.q v.a v.b v.c v.d r hr
theorem good_of {m : RM} (h : ∀ s, Light s → ta m.tf s 0 ≤ s 0) : Good m.tf := fun s hs => ⟨tf_light _ _ hs, h s hs⟩
theorem good_U {m : RM} (h : m.U) : Good m.tf := by
  refine good_of fun s hs => ?_
  have h2 := h.2
  cases m
  simp only [RM.mul, RM.adj, RM.one, RM.mk.injEq] at h2
  obtain ⟨e0, e1, e2, e3, f0, f1, f2, f3⟩ := h2
  simp only [ta, RM.tf, tf, tn, tr', ti, RM.p, RM.q, Nat.reduceMul, Nat.reduceAdd]
  have a0 : ∀ {x y : Rat}, x = y → x ≤ y := fun h => by rw [h]; exact Rat.le_refl
  refine a0 ?_
  grind
theorem good_sca {a : Rat} (h0 : 0 ≤ a) (h1 : a ≤ 1) : Good (scaM a).tf := by
  refine good_of fun s hs => ?_
  obtain ⟨l0, _⟩ := hs
  have hc : 0 ≤ 1 - a * a := by
    have := Rat.mul_nonneg (show 0 ≤ 1 - a by grind) (show 0 ≤ 1 + a by grind)
    grind
  have := Rat.mul_nonneg hc l0
  simp only [ta, RM.tf, tf, tn, tr', ti, RM.p, RM.q, scaM, Nat.reduceMul, Nat.reduceAdd]
  grind
theorem le_of_sq {x y : Rat} (hy : 0 ≤ y) (h : x * x ≤ y * y) : x ≤ y := by
  by_cases hx : x ≤ y
  · exact hx
  · exfalso
    have : 0 < (x - y) * (x + y) := Rat.mul_pos (by grind) (by grind)
    grind
theorem good_fil {c s : Rat} (h : c * c + s * s = 1) : Good (filM c s).tf := by
  refine good_of fun u hu => ?_
  obtain ⟨l0, l1⟩ := hu
  have n3 := sq_nn (u 3)
  have key : (c * c - s * s) * u 1 + (2 * (c * s)) * u 2 ≤ u 0 := by
    refine le_of_sq l0 ?_
    have n := sq_nn ((c * c - s * s) * u 2 - (2 * (c * s)) * u 1)
    have e : (c * c - s * s) * (c * c - s * s) + (2 * (c * s)) * (2 * (c * s)) = 1 := by
      have : (c * c - s * s) * (c * c - s * s) + (2 * (c * s)) * (2 * (c * s)) = (c * c + s * s) * (c * c + s * s) := by grind
      rw [this, h]; grind
    generalize c * c - s * s = a at *
    generalize 2 * (c * s) = b at *
    have : (a * u 1 + b * u 2) * (a * u 1 + b * u 2) + (a * u 2 - b * u 1) * (a * u 2 - b * u 1) = (a * a + b * b) * (u 1 * u 1 + u 2 * u 2) := by grind
    rw [e] at this
    grind
  have e : ta (filM c s).tf u 0 = (u 0 + ((c * c - s * s) * u 1 + (2 * (c * s)) * u 2)) / 2 := by
    simp only [ta, RM.tf, tf, tn, tr', ti, RM.p, RM.q, filM, Nat.reduceMul, Nat.reduceAdd]
    have e4 : c * c * (c * c) + 2 * (c * c * (s * s)) + s * s * (s * s) = 1 := by
      have : c * c * (c * c) + 2 * (c * c * (s * s)) + s * s * (s * s) = (c * c + s * s) * (c * c + s * s) := by grind
      rw [this, h]; grind
    have e5 : c * c * (c * c) - s * s * (s * s) = c * c - s * s := by
      have : c * c * (c * c) - s * s * (s * s) = (c * c + s * s) * (c * c - s * s) := by grind
      rw [this, h]; grind
    have e6 : c * c * (c * s) + c * s * (s * s) = c * s := by
      have : c * c * (c * s) + c * s * (s * s) = (c * c + s * s) * (c * s) := by grind
      rw [this, h]; grind
    have x1 : (c * c * (c * c) + 0 * 0 + 1 * (c * s * (c * s) + 0 * 0) + 1 * (c * s * (c * s) + 0 * 0) + 1 * (s * s * (s * s) + 0 * 0)) / 2 = 1 / 2 := by grind
    have x2 : (c * c * (c * c) + 0 * 0 + -1 * (c * s * (c * s) + 0 * 0) + 1 * (c * s * (c * s) + 0 * 0) + -1 * (s * s * (s * s) + 0 * 0)) / 2 = (c * c - s * s) / 2 := by grind
    have x3 : c * c * (c * s) + 0 * 0 + 1 * (c * s * (s * s) + 0 * 0) = c * s := by grind
    rw [x1, x2, x3]
    grind
  rw [e]
  grind
theorem good_kind {t : Nat → Rat} (h : Good t) {i : Nat} (h1 : 1 ≤ i) (h3 : i ≤ 3) {e : Rat} (he : e * e = 1) : 0 ≤ t 0 + e * t i ∧ t 0 + e * t i ≤ 1 := by
  have hl : Light (fun j => if j = 0 then 1 else if j = i then e else 0) := by
    unfold Light
    rcases (by omega : i = 1 ∨ i = 2 ∨ i = 3) with rfl | rfl | rfl <;> simp <;> grind
  obtain ⟨⟨g1, _⟩, g2⟩ := h _ hl
  have e0 : ta t (fun j => if j = 0 then 1 else if j = i then e else 0) 0 = t 0 + e * t i := by
    unfold ta
    rcases (by omega : i = 1 ∨ i = 2 ∨ i = 3) with rfl | rfl | rfl <;> simp <;> grind
  rw [e0] at g1 g2
  exact ⟨g1, by simpa using g2⟩
end Go.Sx

/- Rows that grow, strings, benches, the library. A part of the proof of FnFilmSingle; no conditions. -/
import Derived.Test.YtebldmiopbfmgaaDoorEe
set_option linter.unusedVariables false
set_option linter.unusedSimpArgs false
/- Rows that grow: turned round, drawn. -/
namespace Go.Sx
open Go
set_option linter.unusedVariables false
set_option linter.unusedSimpArgs false

/-- The four numbers of the k-th element. -/
def four (c : Value) (k : Nat) : List Value := [c.cells.getD (k * 4 + 0) undef, c.cells.getD (k * 4 + 1) undef, c.cells.getD (k * 4 + 2) undef, c.cells.getD (k * 4 + 3) undef]
/-- The last k elements of n, turned round. -/
def revV (c : Value) (n : Nat) : Nat → List Value
  | 0 => []
  | k + 1 => revV c n k ++ four c (n - 1 - k)
theorem revV_length (c : Value) (n : Nat) : ∀ k, (revV c n k).length = 4 * k
  | 0 => rfl
  | k + 1 => by rw [revV, List.length_append, revV_length c n k]; rfl
theorem revV_get (c : Value) (n : Nat) : ∀ (m k j : Nat), k < m → m ≤ n → j < 4 → (revV c n m).getD (k * 4 + j) undef = c.cells.getD ((n - 1 - k) * 4 + j) undef
  | 0, k, j, h, _, _ => by omega
  | m + 1, k, j, h, hm, hj => by
    rw [revV]
    by_cases hk : k < m
    · rw [List.getD_eq_getElem?_getD, List.getElem?_append_left (by rw [revV_length]; omega), ← List.getD_eq_getElem?_getD]
      exact revV_get c n m k j hk (by omega) hj
    · have hkm : k = m := by omega
      subst hkm
      rw [List.getD_eq_getElem?_getD, List.getElem?_append_right (by rw [revV_length]; omega), revV_length]
      rw [show k * 4 + j - 4 * k = j by omega]
      match j, hj with
      | 0, _ => rfl
      | 1, _ => rfl
      | 2, _ => rfl
      | 3, _ => rfl
/-- The row turned round. -/
def revR (c : Value) (n : Nat) : Value := .agg (revV c n n).toArray
theorem revR_size (c : Value) (n : Nat) : (revR c n).cells.size = n * 4 := by
  simp only [revR, Value.cells, List.size_toArray, revV_length]; omega
theorem revR_rq (c : Value) {n k j : Nat} (hk : k < n) (hj : j < 4) : rq (revR c n) k j = rq c (n - 1 - k) j := by
  unfold rq revR
  simp only [Value.cells]
  have : (revV c n n).toArray.getD (k * 4 + j) undef = (revV c n n).getD (k * 4 + j) undef := by simp [List.getD_eq_getElem?_getD, Array.getD_eq_getD_getElem?]
  rw [this, revV_get c n n k j hk (Nat.le_refl _) hj]
  rfl
/-- A slice of the same elements, turned round. -/
def revSpec : Spec := fun ins K => Fit4 (ins.getD 0 undef) (ins.getD 1 undef) ∧ rlen (ins.getD 0 undef) ≤ 1048576 ∧ ∀ a cap, K [.slice a (rlen (ins.getD 0 undef)) cap, revR (ins.getD 1 undef) (rlen (ins.getD 0 undef))]
theorem slice_len {a : Option Addr} {len cap m : Nat} (h : len * 4 = m * 4) : len = m := by omega
/-- The loop that turns a row round: L names are known before it. -/
def revBody (L : Nat) (R : List Ex) : Tr :=
  .ite (.cmp .geq (.var (L + 1)) (.int .i64 0))
   (.evs [.need [(.inb (.var 1) (.var (L + 1)) 4)],
      .app (.var (L + 2)) 4 (.cells [(.sel (.var 1) (.var (L + 1)) 4 0), (.sel (.var 1) (.var (L + 1)) 4 1), (.sel (.var 1) (.var (L + 1)) 4 2), (.sel (.var 1) (.var (L + 1)) 4 3)])]
    (.next 0 [(.var (L + 3)), (.ar .sub .i64 (.var (L + 1)) (.int .i64 1)), (.var (L + 4))]))
   (.ret R)
theorem ev_at (env vs : List Value) (i : Nat) : ev (env ++ vs) (.var (env.length + i)) = vs.getD i undef := ev_var_app env vs i
theorem rev_loop {P : Program} {specs : List Spec} {env : List Value} {K : List Value → Prop} {init : List Ex} {R : List Ex} {c : Value} {n : Nat} (hc : ev env (.var 1) = c) (h1 : 1 < env.length) (hcs : c.cells.size = n * 4) (hn : n ≤ 1048576)
    {a0 : Option Addr} {cap0 : Nat} (hinit : init.map (ev env) = [.slice a0 0 cap0, .int .i64 ((n : Int) - 1), .agg #[]])
    (hK : ∀ a cap, K (R.map (ev (env ++ [.slice a n cap, .int .i64 (-1), revR c n])))) :
    sat P specs (.lp 0 init [.sl, .int .i64, .row .i64 4] (revBody env.length R)) env [] K := by
  refine ⟨fun vs => ∃ (m : Nat) (a : Option Addr) (cap : Nat), m ≤ n ∧ vs = [.slice a m cap, .int .i64 ((n : Int) - 1 - m), .agg (revV c n m).toArray], fun vs => (toI (vs.getD 1 undef) + 1).toNat, ?_, ?_⟩
  · rw [hinit]
    exact ⟨0, a0, cap0, Nat.zero_le _, by simp [revV]⟩
  · rintro vs hty ⟨m, a, cap, hm, rfl⟩
    have hc' : ∀ ws : List Value, ev (env ++ ws) (.var 1) = c := fun ws => by rw [← hc]; exact ev_append env ws _ (Nat.ble_eq_true_of_le h1)
    have e1 : ∀ ws : List Value, ev (env ++ ([.slice a m cap, .int .i64 ((n : Int) - 1 - m), .agg (revV c n m).toArray] ++ ws)) (.var (env.length + 1)) = .int .i64 ((n : Int) - 1 - m) := fun ws => by rw [ev_at]; rfl
    have e1' := e1 []
    rw [List.append_nil] at e1'
    have e1'' : (env ++ [Value.slice a m cap, .int .i64 ((n : Int) - 1 - m), .agg (revV c n m).toArray]).getD (env.length + 1) undef = .int .i64 ((n : Int) - 1 - m) := e1'
    refine ⟨fun h => ?_, fun h => ?_⟩
    · simp only [ev, cmpI, e1'', toI_int] at h
      have hlt : m < n := by
        have h := Value.bool.inj h
        simp only [toI_int, ge_iff_le, decide_eq_true_eq] at h
        omega
      have hidx : ((n : Int) - 1 - m).toNat = n - 1 - m := by omega
      refine ⟨?_, ?_, ?_⟩
      · intro e he
        rw [List.mem_singleton.1 he]
        have q1 : (env ++ [Value.slice a m cap, .int .i64 ((n : Int) - 1 - m), .agg (revV c n m).toArray]).getD 1 undef = c := hc' _
        simp only [ev, e1'', q1, toI_int, hidx, hcs, Value.bool.injEq, decide_eq_true_eq]
        omega
      · have q2 : ev (env ++ [Value.slice a m cap, .int .i64 ((n : Int) - 1 - m), .agg (revV c n m).toArray]) (.var (env.length + 2)) = .agg (revV c n m).toArray := by rw [ev_at]; rfl
        rw [q2]
        simp only [Value.cells, List.size_toArray, revV_length, Src.vals, List.length_map, List.length_cons, List.length_nil]
        omega
      · intro b len cap' hty' hlen
        have q2 : ev (env ++ [Value.slice a m cap, .int .i64 ((n : Int) - 1 - m), .agg (revV c n m).toArray]) (.var (env.length + 2)) = .agg (revV c n m).toArray := by rw [ev_at]; rfl
        have q1 : ev (env ++ [Value.slice a m cap, .int .i64 ((n : Int) - 1 - m), .agg (revV c n m).toArray]) (.var 1) = c := hc' _
        rw [q2] at hlen ⊢
        have qv : (Src.cells [(.sel (.var 1) (.var (env.length + 1)) 4 0), (.sel (.var 1) (.var (env.length + 1)) 4 1), (.sel (.var 1) (.var (env.length + 1)) 4 2), (.sel (.var 1) (.var (env.length + 1)) 4 3)]).vals (env ++ [Value.slice a m cap, .int .i64 ((n : Int) - 1 - m), .agg (revV c n m).toArray]) = four c (n - 1 - m) := by
          have q1' : (env ++ [Value.slice a m cap, .int .i64 ((n : Int) - 1 - m), .agg (revV c n m).toArray]).getD 1 undef = c := q1
          simp only [Src.vals, List.map_cons, List.map_nil, ev, e1'', q1', toI_int, hidx, four]
        rw [qv] at hlen ⊢
        have hl : len = m + 1 := by
          simp only [Value.cells, List.size_toArray, revV_length] at hlen
          have : (four c (n - 1 - m)).length = 4 := rfl
          omega
        subst hl
        have er : ((Value.agg (revV c n m).toArray).cells ++ (four c (n - 1 - m)).toArray) = (revV c n (m + 1)).toArray := by simp [Value.cells, revV]
        rw [er]
        have hw : IntKind.i64.wrap ((n : Int) - 1 - m - 1) = (n : Int) - 1 - ((m + 1 : Nat) : Int) := by rw [wrap_in (by omega)]; omega
        have en : ([(.var (env.length + 3)), (.ar .sub .i64 (.var (env.length + 1)) (.int .i64 1)), (.var (env.length + 4))] : List Ex).map (ev (env ++ [Value.slice a m cap, .int .i64 ((n : Int) - 1 - m), .agg (revV c n m).toArray] ++ [Value.slice b (m + 1) cap', Value.agg (revV c n (m + 1)).toArray])) = [Value.slice b (m + 1) cap', Value.int .i64 ((n : Int) - 1 - ((m + 1 : Nat) : Int)), Value.agg (revV c n (m + 1)).toArray] := by
          rw [List.append_assoc]
          have f1 := e1 [Value.slice b (m + 1) cap', Value.agg (revV c n (m + 1)).toArray]
          simp only [List.map_cons, List.map_nil, ev_at]
          have f2 : ev (env ++ ([Value.slice a m cap, .int .i64 ((n : Int) - 1 - m), .agg (revV c n m).toArray] ++ [Value.slice b (m + 1) cap', Value.agg (revV c n (m + 1)).toArray])) (.ar .sub .i64 (.var (env.length + 1)) (.int .i64 1)) = .int .i64 ((n : Int) - 1 - ((m + 1 : Nat) : Int)) := by
            have f1' : (env ++ ([Value.slice a m cap, .int .i64 ((n : Int) - 1 - m), .agg (revV c n m).toArray] ++ [Value.slice b (m + 1) cap', Value.agg (revV c n (m + 1)).toArray])).getD (env.length + 1) undef = .int .i64 ((n : Int) - 1 - m) := f1
            simp only [ev, f1', toI_int, arI, hw]
          rw [f2]
          rfl
        show (fun vs' => (∃ (m : Nat) (a : Option Addr) (cap : Nat), m ≤ n ∧ vs' = [.slice a m cap, .int .i64 ((n : Int) - 1 - m), .agg (revV c n m).toArray]) ∧ (toI (vs'.getD 1 undef) + 1).toNat < _) _
        rw [en]
        refine ⟨⟨m + 1, b, cap', by omega, rfl⟩, ?_⟩
        show ((n : Int) - 1 - ((m + 1 : Nat) : Int) + 1).toNat < ((n : Int) - 1 - m + 1).toNat
        omega
    · simp only [ev, cmpI, e1'', toI_int] at h
      have hmn : m = n := by
        have h := Value.bool.inj h
        simp only [toI_int, ge_iff_le, decide_eq_false_iff_not] at h
        omega
      subst hmn
      have := hK a cap
      rw [show ((m : Int) - 1 - m) = -1 by omega]
      exact this

/-! what is drawn -/
/-- A film that is drawn: at most four layers, of whatever numbers. -/
def drawFilm (cb : CodeB) : Spec := fun ins K => drawPre cb ins ∧ ∀ a n cap c, n ≤ 4 → HasTy (.row .i64 4) c → c.cells.size = n * 4 → K [.slice a n cap, c]
def filmSpec (cb : CodeB) : Spec := fun ins K => ∃ b z B, ins = [b, .int .i64 z] ∧ goodSl cb b ∧ 0 ≤ z ∧ z ≤ B ∧ (B = 1000 ∨ B = 3000) ∧
  ∀ a n cap c b' z', n ≤ 4 → HasTy (.row .i64 4) c → c.cells.size = n * 4 → goodSl cb b' → 0 ≤ z' → z' ≤ B + 1000 → K [.slice a n cap, b', .int .i64 z', c]
def chk5 (o : Option (List AV)) (H : Int) : Bool := match o with
  | some [_, _, _, .good, .itv lo hi] => decide (0 ≤ lo) && decide (hi ≤ H)
  | _ => false
theorem chk5_use {cb : CodeB} {F : Fun1} {A : AF} {H0 H : Int} (h : AOK cb F A) (hc : chk5 (A [.good, .itv 0 H0]) H = true) {b : Value} {z : Int} (hb : goodSl cb b) (h0 : 0 ≤ z) (hz : z ≤ H0) {K : List Value → Prop}
    (hK : ∀ u v w b' z', goodSl cb b' → 0 ≤ z' → z' ≤ H → K [u, v, w, b', .int .i64 z']) : F.spec [b, .int .i64 z] K := by
  unfold chk5 at hc
  split at hc
  · rename_i x y q lo hi hA
    simp only [Bool.and_eq_true, decide_eq_true_eq] at hc
    obtain ⟨h1, h2⟩ := h _ _ hA [b, .int .i64 z] ⟨hb, ⟨z, rfl, h0, hz⟩, trivial⟩
    refine ⟨h1, ?_⟩
    generalize F.out [b, .int .i64 z] = o at h2
    match o, h2 with
    | [u, v, w, b', p], h2 =>
      obtain ⟨_, _, _, hg, ⟨z', rfl, l1, l2⟩, _⟩ := h2
      exact hK u v w b' z' hg (by omega) (by omega)
  · cases hc
/-- A number that is drawn. -/
theorem aok1_use {cb : CodeB} {F : Fun1} {A : AF} {I : List AV} {ins : List Value} {lo hi p q : Int} (h : AOK cb F A) (hA : A I = some [.itv lo hi, .good, .itv p q]) (hi' : AAll cb I ins) {K : List Value → Prop}
    (hK : ∀ x b z, lo ≤ x → x ≤ hi → goodSl cb b → p ≤ z → z ≤ q → K [.int .i64 x, b, .int .i64 z]) : F.spec ins K := by
  obtain ⟨h1, h2⟩ := h _ _ hA ins hi'
  refine ⟨h1, ?_⟩
  generalize F.out ins = o at h2
  match o, h2 with
  | [u, b, v], h2 =>
    obtain ⟨⟨x, rfl, x1, x2⟩, hg, ⟨z, rfl, z1, z2⟩, _⟩ := h2
    exact hK x b z x1 x2 hg z1 z2
/-- A draw whose results are typed. -/
def tySpec (ts : List Ty) (sp : Spec) : Spec := fun ins K => sp ins fun outs => TypedL ts outs → K outs
theorem ConOK.tys {P : Program} {G : List (Nat × List Sc)} {f : Nat} {sig : Sig} {sp : Spec} (h : ConOK P G f sig sp) : ConOK P G f sig (tySpec sig.tout sp) := by
  intro w bs ins K g hs
  refine (h w bs ins _ g hs).mono ?_
  rintro e w' ⟨outs, bs', v, rfl, L⟩
  exact ⟨outs, bs', v, rfl, { post := L.post L.typed, typed := L.typed, len := L.len, old := L.old, new := L.new, nodup := L.nodup, res := L.res, blk := L.blk, rows := L.rows, os := L.os, tape := L.tape, output := L.output, size := L.size, frame := L.frame, owns := L.owns }⟩
/-- A law that draws a film first. -/
theorem law_film {P : Program} {cb : CodeB} {specs : List Spec} {t : Tr} {n : Nat} {ins : List Value} {K : List Value → Prop}
    (h : ∀ v a n cap c, n ≤ 4 → HasTy (.row .i64 4) c → c.cells.size = n * 4 → sat P (drawFilm cb :: specs) t [v, .slice a n cap, c] [] K)
    (hp : (lawF cb).pre ins) (hK : K [.bool true]) :
    sat P (drawFilm cb :: specs) (.ite (.cmp .gtr (.len (.var 0)) (.int .i64 1048576)) (.ret [.bool true]) (.evs [.call 0 [.var 0] none n] t)) ins [] K := by
  obtain ⟨a, m, cap, rfl, hm, hg⟩ := hp
  refine ⟨fun _ => hK, fun hc => ?_⟩
  have hm2 : m ≤ 1048576 := by
    have hc : Value.bool (decide ((m : Int) > 1048576)) = .bool false := hc
    simp only [Value.bool.injEq, decide_eq_false_iff_not] at hc
    omega
  exact ⟨⟨_, rfl, hg hm2⟩, fun a' n' cap' c h1 h2 h3 => h _ a' n' cap' c h1 h2 h3⟩
/-- Something is appended. -/
theorem app_step {P : Program} {specs : List Spec} {env : List Value} {K : List Value → Prop} {c : Ex} {n : Nat} {src : Src} {r : List Evn} {xs ys : List Value} (hc : ev env c = .agg xs.toArray) (hs : src.vals env = ys) (hb : xs.length + ys.length ≤ 1099511627776)
    (h : ∀ a len cap, len ≤ 9223372036854775807 → len * n = xs.length + ys.length → evSat P specs r (env ++ [.slice a len cap, .agg (xs ++ ys).toArray]) K) : evSat P specs (.app c n src :: r) env K := by
  have e : ((ev env c).cells ++ (src.vals env).toArray) = (xs ++ ys).toArray := by rw [hc, hs]; simp [Value.cells]
  have e2 : (ev env c).cells.size = xs.length := by rw [hc]; simp [Value.cells]
  refine ⟨by rw [e2, hs]; exact hb, fun a len cap ht hl => ?_⟩
  rw [e]
  rw [e2, hs] at hl
  obtain ⟨⟨a', l', c', q, hq⟩, _⟩ := ht
  cases q
  exact h a len cap hq hl
theorem app_stepC {P : Program} {specs : List Spec} {env : List Value} {K : List Value → Prop} {c : Ex} {n : Nat} {src : Src} {r : List Evn} {xs ys : List Value} (hc : ev env c = .agg xs.toArray) (hs : src.vals env = ys) (hb : xs.length + ys.length ≤ 1099511627776)
    (h : ∀ a len cap, len ≤ 9223372036854775807 → len ≤ cap → len * n = xs.length + ys.length → evSat P specs r (env ++ [.slice a len cap, .agg (xs ++ ys).toArray]) K) : evSat P specs (.app c n src :: r) env K := by
  have e : ((ev env c).cells ++ (src.vals env).toArray) = (xs ++ ys).toArray := by rw [hc, hs]; simp [Value.cells]
  have e2 : (ev env c).cells.size = xs.length := by rw [hc]; simp [Value.cells]
  refine ⟨by rw [e2, hs]; exact hb, fun a len cap ht hl => ?_⟩
  rw [e]
  rw [e2, hs] at hl
  obtain ⟨⟨a', l', c', q, hq⟩, hcap⟩ := ht
  cases q
  exact h a len cap hq hcap hl
theorem app_empty {P : Program} {specs : List Spec} {env : List Value} {K : List Value → Prop} {n : Nat} {r : List Evn} (hn : 0 < n) (h : ∀ a cap, evSat P specs r (env ++ [.slice a 0 cap, .agg #[]]) K) :
    evSat P specs (.app (.val (.agg #[])) n (.cells []) :: r) env K := by
  refine app_step (xs := []) (ys := []) rfl rfl (by simp) fun a len cap _ hl => ?_
  have h0 : len = 0 := (Nat.mul_eq_zero.1 (by simpa using hl)).elim id fun h => by omega
  subst h0
  exact h a cap
theorem evs_step {P : Program} {specs : List Spec} {l : List Evn} {t : Tr} {env : List Value} {N : List (List Value → Prop)} {K : List Value → Prop} (h : evSat P specs l env fun env' => sat P specs t env' N K) : sat P specs (.evs l t) env N K := h
theorem evs_nil {P : Program} {specs : List Spec} {env : List Value} {K : List Value → Prop} (h : K env) : evSat P specs [] env K := h
theorem call_step {P : Program} {specs : List Spec} {k n : Nat} {ins : List Ex} {r : List Evn} {env : List Value} {K : List Value → Prop} {sp : Spec} (hs : specs[k]? = some sp) (h : sp (ins.map (ev env)) fun outs => evSat P specs r (env ++ outs) K) : evSat P specs (.call k ins none n :: r) env K := by
  simp only [evSat, hs]
  exact h
theorem fit4_of {a : Option Addr} {n cap : Nat} {c : Value} (h : c.cells.size = n * 4) (hn : n ≤ 9223372036854775807) : Fit4 (.slice a n cap) c := ⟨a, n, cap, rfl, h, hn⟩
end Go.Sx

/- Films as matrices of rationals. -/
namespace Go.Sx
open Go
set_option linter.unusedVariables false
set_option linter.unusedSimpArgs false

theorem oneQ_valid : validQ oneQ = true := by decide
theorem oneQ_re : reR oneQ = 1 := by decide +kernel
theorem oneQ_im : imR oneQ = 0 := by decide +kernel
theorem nilQ_re : reR nil1 = 0 := by decide +kernel
theorem nilQ_im : imR nil1 = 0 := by decide +kernel
theorem times_oneQ {v : Q} (h : validQ v = true) : timesQ v oneQ = some v := times_of h oneQ_valid h (by rw [oneQ_re, oneQ_im]; grind) (by rw [oneQ_re, oneQ_im]; grind)
theorem times_nilQ {v : Q} (h : validQ v = true) : timesQ v nil1 = some nil1 := times_of h nil1_valid nil1_valid (by rw [nilQ_re, nilQ_im]; grind) (by rw [nilQ_re, nilQ_im]; grind)
theorem add_nilQ {v : Q} (h : validQ v = true) : addQ v nil1 = some v := by rw [add_comm']; exact add_nil h
theorem mix_one_nil {a b : Q} (ha : validQ a = true) (hb : validQ b = true) : mixQ a oneQ b nil1 = some a := by
  simp only [mixQ, times_oneQ ha, times_nilQ hb, Option.bind_some, add_nilQ ha]
theorem mix_nil_one {a b : Q} (ha : validQ a = true) (hb : validQ b = true) : mixQ a nil1 b oneQ = some b := by
  simp only [mixQ, times_oneQ hb, times_nilQ ha, Option.bind_some, add_nil hb]
def minQ : Q := (-1, 0, 1)
theorem minQ_valid : validQ minQ = true := by decide
theorem times_minQ {v : Q} (h : validQ v = true) : timesQ v minQ = some (negQ v) := times_M h
theorem mix_min_nil {a b : Q} (ha : validQ a = true) (hb : validQ b = true) : mixQ a minQ b nil1 = some (negQ a) := by
  simp only [mixQ, times_minQ ha, times_nilQ hb, Option.bind_some, add_nilQ (negQ_valid ha)]
theorem mix_nil_min {a b : Q} (ha : validQ a = true) (hb : validQ b = true) : mixQ a nil1 b minQ = some (negQ b) := by
  simp only [mixQ, times_minQ hb, times_nilQ ha, Option.bind_some, add_nil (negQ_valid hb)]
/-- The matrix that changes nothing; the one that turns signs. -/
def idM (s : Q) : Nat → Q
  | 0 => s
  | 1 => nil1
  | 2 => nil1
  | _ => s
theorem mul_id {a : Nat → Q} (ha : ∀ i, i < 4 → validQ (a i) = true) : ∀ i, i < 4 → mulM a (idM oneQ) i = some (a i) :=
  get4 (mix_one_nil (ha 0 (by omega)) (ha 1 (by omega))) (mix_nil_one (ha 0 (by omega)) (ha 1 (by omega))) (mix_one_nil (ha 2 (by omega)) (ha 3 (by omega))) (mix_nil_one (ha 2 (by omega)) (ha 3 (by omega)))
theorem mul_min {a : Nat → Q} (ha : ∀ i, i < 4 → validQ (a i) = true) : ∀ i, i < 4 → mulM a (idM minQ) i = some (negQ (a i)) :=
  get4 (mix_min_nil (ha 0 (by omega)) (ha 1 (by omega))) (mix_nil_min (ha 0 (by omega)) (ha 1 (by omega))) (mix_min_nil (ha 2 (by omega)) (ha 3 (by omega))) (mix_nil_min (ha 2 (by omega)) (ha 3 (by omega)))
theorem mix_valid {a p b q v : Q} (h : mixQ a p b q = some v) : validQ v = true := (mix_val h).2.2
theorem mix_argsv {a p b q v : Q} (h : mixQ a p b q = some v) : validQ a = true ∧ validQ p = true ∧ validQ b = true ∧ validQ q = true := by
  obtain ⟨x, y, hx, hy, _⟩ := mix_args h
  exact ⟨(times_args hx).1, (times_args hx).2, (times_args hy).1, (times_args hy).2⟩
/-! quotients -/
theorem over_args {a b v : Q} (h : overQ a b = some v) : validQ a = true ∧ validQ b = true ∧ ¬ (b.1 = 0 ∧ b.2.1 = 0) ∧ validQ v = true := by
  unfold overQ at h
  split at h
  · rename_i hc
    simp only [Bool.and_eq_true, Bool.not_eq_true', Bool.and_eq_false_iff, beq_eq_false_iff_ne, ne_eq] at hc
    obtain ⟨t, ht, hv⟩ := Option.bind_eq_some_iff.1 h
    exact ⟨hc.1, hc.2.1, fun h0 => by rcases hc.2.2 with h | h <;> simp [h0.1, h0.2] at h, times_valid hv⟩
  · cases h
theorem over_val {a b v : Q} (h : overQ a b = some v) : reR v * reR b - imR v * imR b = reR a ∧ reR v * imR b + imR v * reR b = imR a := by
  obtain ⟨ha, hb, hz, hv⟩ := over_args h
  have nb := den_ne hb
  unfold overQ at h
  rw [ha, hb] at h
  have e : (b.1 == 0 && b.2.1 == 0) = false := by
    cases hq : (b.1 == 0 && b.2.1 == 0) with
    | false => rfl
    | true => exact absurd (by simpa using hq) hz
  rw [e] at h
  simp only [Bool.not_false, Bool.and_self, if_true] at h
  obtain ⟨t, ht, hm⟩ := Option.bind_eq_some_iff.1 h
  obtain ⟨_, _, _, _, _, _, _, p1⟩ := turn_facts hb hz
  unfold turnQ at ht
  obtain ⟨t1, t2⟩ := low_val (by omega) ht
  obtain ⟨m1, m2⟩ := times_val hm
  have hn : ((b.1 * b.1 + b.2.1 * b.2.1 : Int) : Rat) ≠ 0 := by
    have : b.1 * b.1 + b.2.1 * b.2.1 ≠ 0 := by omega
    exact_mod_cast this
  rw [m1, m2, t1, t2]
  simp only [reR, imR, Rat.intCast_mul, Rat.intCast_neg, Rat.intCast_add] at hn ⊢
  constructor <;> grind
/-- Two that are not nothing: their quotient is one. -/
theorem nz_of {b : Q} (hb : validQ b = true) (hz : ¬ (b.1 = 0 ∧ b.2.1 = 0)) : ¬ (reR b = 0 ∧ imR b = 0) := by
  have nb := den_ne hb
  rintro ⟨h1, h2⟩
  refine hz ⟨?_, ?_⟩
  · have : (b.1 : Rat) = 0 := by unfold reR at h1; grind
    exact_mod_cast this
  · have : (b.2.1 : Rat) = 0 := by unfold imR at h2; grind
    exact_mod_cast this
/-! matrices of rationals -/
/-- The real and the imaginary part of a product of complex numbers. -/
def cr (a b c d : Rat) : Rat := a * c - b * d
def ci (a b c d : Rat) : Rat := a * d + b * c
theorem mul_val {a b o : Nat → Q} (h : ∀ i, i < 4 → mulM a b i = some (o i)) : ∀ i, i < 4 → reR (o i) = mp (fun i => reR (a i)) (fun i => imR (a i)) (fun i => reR (b i)) (fun i => imR (b i)) i ∧
    imR (o i) = mq (fun i => reR (a i)) (fun i => imR (a i)) (fun i => reR (b i)) (fun i => imR (b i)) i ∧ validQ (o i) = true := by
  intro i hi
  obtain ⟨h1, h2, h3⟩ := mix_val (h i hi)
  exact ⟨h1, h2, h3⟩
/-- The determinant's parts. -/
def dre (p q : Nat → Rat) : Rat := (p 0 * p 3 - q 0 * q 3) - (p 1 * p 2 - q 1 * q 2)
def dim (p q : Nat → Rat) : Rat := (p 0 * q 3 + q 0 * p 3) - (p 1 * q 2 + q 1 * p 2)
theorem det_mul (p q p' q' : Nat → Rat) : dre (mp p q p' q') (mq p q p' q') = dre p q * dre p' q' - dim p q * dim p' q' ∧ dim (mp p q p' q') (mq p q p' q') = dre p q * dim p' q' + dim p q * dre p' q' := by
  unfold dre dim mp mq
  simp only [Nat.reduceDiv, Nat.reduceMod, Nat.reduceMul, Nat.reduceAdd]
  generalize p 0 = p0
  generalize p 1 = p1
  generalize p 2 = p2
  generalize p 3 = p3
  generalize q 0 = q0
  generalize q 1 = q1
  generalize q 2 = q2
  generalize q 3 = q3
  generalize p' 0 = r0
  generalize p' 1 = r1
  generalize p' 2 = r2
  generalize p' 3 = r3
  generalize q' 0 = s0
  generalize q' 1 = s1
  generalize q' 2 = s2
  generalize q' 3 = s3
  constructor <;> grind
theorem det_congr {p p' q q' : Nat → Rat} (hp : ∀ i, i < 4 → p i = p' i) (hq : ∀ i, i < 4 → q i = q' i) : dre p q = dre p' q' ∧ dim p q = dim p' q' := by
  unfold dre dim
  rw [hp 0 (by omega), hp 1 (by omega), hp 2 (by omega), hp 3 (by omega), hq 0 (by omega), hq 1 (by omega), hq 2 (by omega), hq 3 (by omega)]
  exact ⟨rfl, rfl⟩
/-- A matrix of the determinant 1. -/
def Uni (m : Nat → Q) : Prop := dre (fun i => reR (m i)) (fun i => imR (m i)) = 1 ∧ dim (fun i => reR (m i)) (fun i => imR (m i)) = 0
theorem uni_mul {a b o : Nat → Q} (h : ∀ i, i < 4 → mulM a b i = some (o i)) (ha : Uni a) (hb : Uni b) : Uni o := by
  have hv := mul_val h
  obtain ⟨e1, e2⟩ := det_congr (fun i hi => (hv i hi).1) (fun i hi => (hv i hi).2.1)
  obtain ⟨d1, d2⟩ := det_mul (fun i => reR (a i)) (fun i => imR (a i)) (fun i => reR (b i)) (fun i => imR (b i))
  obtain ⟨a1, a2⟩ := ha
  obtain ⟨b1, b2⟩ := hb
  unfold Uni
  rw [e1, e2, d1, d2, a1, a2, b1, b2]
  constructor <;> grind
theorem unitQ_re (qt : Int) : reR (unitOf qt) = 0 := by
  unfold unitOf
  split <;> decide +kernel
theorem unitQ_im (qt : Int) : imR (unitOf qt) * imR (unitOf qt) = 1 := by
  unfold unitOf
  split <;> decide +kernel
theorem minQ_re : reR minQ = -1 := by decide +kernel
theorem minQ_im : imR minQ = 0 := by decide +kernel
/-- What a layer's matrix is. -/
theorem lay_cases {x : Q} {qt : Int} {L : Nat → Q} (h : ∀ i, i < 4 → layD x qt i = some (L i)) :
    (∃ s, (s = oneQ ∨ s = minQ) ∧ ∀ i, i < 4 → L i = idM s i) ∨ (L 0 = nil1 ∧ L 3 = nil1 ∧ overQ (unitOf qt) x = some (L 1) ∧ timesQ (unitOf qt) x = some (L 2)) := by
  have h0 := h 0 (by omega)
  have h1 := h 1 (by omega)
  have h2 := h 2 (by omega)
  have h3 := h 3 (by omega)
  unfold layD at h0 h1 h2 h3
  by_cases q0 : qt = 0
  · simp only [q0, if_true, Option.some.injEq] at h0 h1 h2 h3
    exact .inl ⟨oneQ, .inl rfl, get4 h0.symm h1.symm h2.symm h3.symm⟩
  · by_cases q2 : qt = 2
    · simp only [q0, q2, if_false, if_true, Option.some.injEq] at h0 h1 h2 h3
      simp at h0 h1 h2 h3
      exact .inl ⟨minQ, .inr rfl, get4 h0.symm h1.symm h2.symm h3.symm⟩
    · simp only [q0, q2, if_false, Option.some.injEq] at h0 h1 h2 h3
      exact .inr ⟨h0.symm, h3.symm, h1, h2⟩
theorem lay_valid {x : Q} {qt : Int} {L : Nat → Q} (h : ∀ i, i < 4 → layD x qt i = some (L i)) : ∀ i, i < 4 → validQ (L i) = true := by
  rcases lay_cases h with ⟨s, hs, hL⟩ | ⟨h0, h3, h1, h2⟩
  · intro i hi
    rw [hL i hi]
    have hv : validQ s = true := by rcases hs with rfl | rfl <;> decide
    match i, hi with
    | 0, _ => exact hv
    | 1, _ => exact nil1_valid
    | 2, _ => exact nil1_valid
    | 3, _ => exact hv
  · exact get4 (by rw [h0]; exact nil1_valid) (over_args h1).2.2.2 (times_valid h2) (by rw [h3]; exact nil1_valid)
theorem lay_uni {x : Q} {qt : Int} {L : Nat → Q} (h : ∀ i, i < 4 → layD x qt i = some (L i)) : Uni L := by
  rcases lay_cases h with ⟨s, hs, hL⟩ | ⟨h0, h3, h1, h2⟩
  · unfold Uni dre dim
    dsimp only
    rw [hL 0 (by omega), hL 1 (by omega), hL 2 (by omega), hL 3 (by omega)]
    simp only [idM, nilQ_re, nilQ_im]
    rcases hs with rfl | rfl
    · rw [oneQ_re, oneQ_im]; constructor <;> grind
    · rw [minQ_re, minQ_im]; constructor <;> grind
  · obtain ⟨o1, o2⟩ := over_val h1
    obtain ⟨t1, t2⟩ := times_val h2
    have u1 := unitQ_re qt
    have u2 := unitQ_im qt
    unfold Uni dre dim
    dsimp only
    rw [h0, h3, nilQ_re, nilQ_im, t1, t2]
    rw [u1] at o1 ⊢
    generalize imR (unitOf qt) = u at *
    generalize reR x = a at *
    generalize imR x = b at *
    generalize reR (L 1) = c at *
    generalize imR (L 1) = d at *
    constructor <;> grind
end Go.Sx

/- Products of matrices of complex rationals, turned round. -/
namespace Go.Sx
open Go
set_option linter.unusedVariables false
set_option linter.unusedSimpArgs false

/-- Four complex rationals. -/
structure RM where
  p0 : Rat
  p1 : Rat
  p2 : Rat
  p3 : Rat
  q0 : Rat
  q1 : Rat
  q2 : Rat
  q3 : Rat
theorem RM.eq {a b : RM} (h0 : a.p0 = b.p0) (h1 : a.p1 = b.p1) (h2 : a.p2 = b.p2) (h3 : a.p3 = b.p3) (k0 : a.q0 = b.q0) (k1 : a.q1 = b.q1) (k2 : a.q2 = b.q2) (k3 : a.q3 = b.q3) : a = b := by
  cases a; cases b; simp_all
def RM.mul (a b : RM) : RM :=
  ⟨a.p0 * b.p0 - a.q0 * b.q0 + (a.p1 * b.p2 - a.q1 * b.q2), a.p0 * b.p1 - a.q0 * b.q1 + (a.p1 * b.p3 - a.q1 * b.q3),
   a.p2 * b.p0 - a.q2 * b.q0 + (a.p3 * b.p2 - a.q3 * b.q2), a.p2 * b.p1 - a.q2 * b.q1 + (a.p3 * b.p3 - a.q3 * b.q3),
   a.p0 * b.q0 + a.q0 * b.p0 + (a.p1 * b.q2 + a.q1 * b.p2), a.p0 * b.q1 + a.q0 * b.p1 + (a.p1 * b.q3 + a.q1 * b.p3),
   a.p2 * b.q0 + a.q2 * b.p0 + (a.p3 * b.q2 + a.q3 * b.p2), a.p2 * b.q1 + a.q2 * b.p1 + (a.p3 * b.q3 + a.q3 * b.p3)⟩
def RM.one : RM := ⟨1, 0, 0, 1, 0, 0, 0, 0⟩
/-- Turned over the other diagonal. -/
def RM.sig (a : RM) : RM := ⟨a.p3, a.p1, a.p2, a.p0, a.q3, a.q1, a.q2, a.q0⟩
theorem RM.one_mul (a : RM) : RM.one.mul a = a := by
  cases a
  apply RM.eq <;> simp only [RM.mul, RM.one] <;> grind
theorem RM.mul_one (a : RM) : a.mul RM.one = a := by
  cases a
  apply RM.eq <;> simp only [RM.mul, RM.one] <;> grind
theorem RM.assoc (a b c : RM) : (a.mul b).mul c = a.mul (b.mul c) := by
  cases a; cases b; cases c
  apply RM.eq <;> simp only [RM.mul] <;> grind
theorem RM.sig_mul (a b : RM) : (a.mul b).sig = b.sig.mul a.sig := by
  cases a; cases b
  apply RM.eq <;> simp only [RM.mul, RM.sig] <;> grind
theorem RM.sig_sig (a : RM) : a.sig.sig = a := rfl
def prodR (L : Nat → RM) : Nat → RM
  | 0 => RM.one
  | k + 1 => (prodR L k).mul (L k)
theorem prodR_congr {L M : Nat → RM} : ∀ {n : Nat}, (∀ k, k < n → L k = M k) → prodR L n = prodR M n
  | 0, _ => rfl
  | n + 1, h => by rw [prodR, prodR, prodR_congr fun k hk => h k (by omega), h n (by omega)]
/-- A film turned round. -/
theorem prodR_back {L M : Nat → RM} {n : Nat} (hs : ∀ k, k < n → (L k).sig = L k) (hM : ∀ k, k < n → M k = L (n - 1 - k)) : (prodR M n).sig = prodR L n := by
  have step : ∀ k, k < n → (prodR M (k + 1)).sig = (L (n - 1 - k)).mul (prodR M k).sig := fun k hk => by
    rw [prodR, RM.sig_mul, hM k hk, hs _ (by omega)]
  have key : ∀ j, j ≤ n → (prodR L j).mul (prodR M (n - j)).sig = (prodR M n).sig := by
    intro j
    induction j with
    | zero => intro _; exact RM.one_mul _
    | succ j ih =>
      intro hj
      have h := ih (by omega)
      obtain ⟨m, hm⟩ : ∃ m, n - j = m + 1 := ⟨n - j - 1, by omega⟩
      rw [hm, step m (by omega), show n - 1 - m = j by omega, ← RM.assoc] at h
      rw [show n - (j + 1) = m by omega]
      exact h
  have h := key n (Nat.le_refl _)
  rw [Nat.sub_self] at h
  rw [← h]
  exact RM.mul_one _
def ofQ (m : Nat → Q) : RM := ⟨reR (m 0), reR (m 1), reR (m 2), reR (m 3), imR (m 0), imR (m 1), imR (m 2), imR (m 3)⟩
theorem ofQ_mul {a b o : Nat → Q} (h : ∀ i, i < 4 → mulM a b i = some (o i)) : ofQ o = (ofQ a).mul (ofQ b) := by
  have v := mul_val h
  exact RM.eq (v 0 (by omega)).1 (v 1 (by omega)).1 (v 2 (by omega)).1 (v 3 (by omega)).1 (v 0 (by omega)).2.1 (v 1 (by omega)).2.1 (v 2 (by omega)).2.1 (v 3 (by omega)).2.1
theorem ofQ_congr {a b : Nat → Q} (h : ∀ i, i < 4 → a i = b i) : ofQ a = ofQ b := by
  unfold ofQ
  rw [h 0 (by omega), h 1 (by omega), h 2 (by omega), h 3 (by omega)]
theorem lay_sig {x : Q} {qt : Int} {L : Nat → Q} (h : ∀ i, i < 4 → layD x qt i = some (L i)) : (ofQ L).sig = ofQ L := by
  have e : L 0 = L 3 := by
    rcases lay_cases h with ⟨s, hs, hL⟩ | ⟨h0, h3, _, _⟩
    · rw [hL 0 (by omega), hL 3 (by omega)]; rfl
    · rw [h0, h3]
  unfold ofQ RM.sig
  simp only [e]
end Go.Sx

/- Real fractions compared; the six kinds of pure light. -/
namespace Go.Sx
open Go
set_option linter.unusedVariables false
set_option linter.unusedSimpArgs false

def sgnI (n : Int) : Int := if n < 0 then -1 else if n > 0 then 1 else 0
def crossI (a b : Q) : Int := a.1 * b.2.2 - b.1 * a.2.2
def cmpF (a b : Q) : Int := if realQ a && realQ b then sgnI (crossI a b) else 0
theorem cross_pos {a b : Q} (ha : realQ a = true) (hb : realQ b = true) : (0 < crossI a b ↔ reR b < reR a) ∧ (crossI a b < 0 ↔ reR a < reR b) := by
  have h1 := valid_den (realQ_valid ha)
  have h2 := valid_den (realQ_valid hb)
  have p1 : (0 : Rat) < (a.2.2 : Rat) := by
    have : (0 : Int) < a.2.2 := by omega
    exact_mod_cast this
  have p2 : (0 : Rat) < (b.2.2 : Rat) := by
    have : (0 : Int) < b.2.2 := by omega
    exact_mod_cast this
  have key : ∀ x y : Q, (0 : Rat) < (x.2.2 : Rat) → (0 : Rat) < (y.2.2 : Rat) → (reR x < reR y ↔ x.1 * y.2.2 < y.1 * x.2.2) := by
    intro x y hx hy
    have hy0 : (y.2.2 : Rat) ≠ 0 := by grind
    unfold reR
    rw [Rat.div_lt_iff hx, show (y.1 : Rat) / (y.2.2 : Rat) * (x.2.2 : Rat) = ((y.1 : Rat) * (x.2.2 : Rat)) / (y.2.2 : Rat) by grind, Rat.lt_div_iff hy, ← Rat.intCast_mul, ← Rat.intCast_mul, Rat.intCast_lt_intCast]
  rw [key b a p2 p1, key a b p1 p2]
  unfold crossI
  constructor <;> constructor <;> intro h <;> omega
theorem cmpF_gt {a b : Q} (ha : realQ a = true) (hb : realQ b = true) : 0 < cmpF a b ↔ reR b < reR a := by
  rw [← (cross_pos ha hb).1]
  unfold cmpF sgnI
  rw [ha, hb]
  simp only [Bool.and_self, if_true]
  split
  · omega
  · split <;> omega
theorem cmpF_lt {a b : Q} (ha : realQ a = true) (hb : realQ b = true) : cmpF a b < 0 ↔ reR a < reR b := by
  rw [← (cross_pos ha hb).2]
  unfold cmpF sgnI
  rw [ha, hb]
  simp only [Bool.and_self, if_true]
  split
  · omega
  · split <;> omega
theorem re_sign {a : Q} (ha : realQ a = true) : 0 ≤ a.1 ↔ 0 ≤ reR a := by
  have h1 := valid_den (realQ_valid ha)
  have p1 : (0 : Rat) < (a.2.2 : Rat) := by
    have : (0 : Int) < a.2.2 := by omega
    exact_mod_cast this
  have : reR a < 0 ↔ a.1 < 0 := by
    unfold reR
    rw [Rat.div_lt_iff p1, Rat.zero_mul]
    exact_mod_cast Iff.rfl
  constructor
  · intro h
    have : ¬ reR a < 0 := fun hh => by have := this.1 hh; omega
    grind
  · intro h
    have : ¬ a.1 < 0 := fun hh => by have := this.2 hh; grind
    omega
theorem one_real : realQ oneQ = true := by decide
theorem nil_real : realQ nil1 = true := by decide
/-! kinds -/
/-- Pure light of the k-th kind. -/
def kd (k : Nat) : List Value :=
  let s := Value.int .i64 (1 - 2 * ((k % 2 : Nat) : Int))
  let o := Value.int .i64 0
  [.int .i64 1, .int .i64 0, .int .i64 1, if k / 2 = 0 then s else o, .int .i64 0, .int .i64 1, if k / 2 = 1 then s else o, .int .i64 0, .int .i64 1, if k / 2 = 2 then s else o, .int .i64 0, .int .i64 1]
def sgQ (k : Nat) : Q := (1 - 2 * ((k % 2 : Nat) : Int), 0, 1)
theorem kd_real (k : Nat) (hk : k < 6) : ∀ j, j < 4 → realQ (q3 (kd k) (3 * j)) = true := by
  rcases (by omega : k = 0 ∨ k = 1 ∨ k = 2 ∨ k = 3 ∨ k = 4 ∨ k = 5) with rfl | rfl | rfl | rfl | rfl | rfl <;> exact get4 (by decide) (by decide) (by decide) (by decide)
/-! a function that is known at six numbers -/
def twelve : List Sc := [.e (.var 0), .e (.var 1), .e (.var 2), .e (.var 3), .e (.var 4), .e (.var 5), .e (.var 6), .e (.var 7), .e (.var 8), .e (.var 9), .e (.var 10), .e (.var 11)]
def sgKind (k : Nat) : Sig := { args := [.s (.e (.int .i64 (k : Int)))], pre := [], tin := [], gin := [], res := .c (.ag twelve), post := [], tout := [.int .i64, .int .i64, .int .i64, .int .i64, .int .i64, .int .i64, .int .i64, .int .i64, .int .i64, .int .i64, .int .i64, .int .i64], gout := [] }
def sgKindV : Sig := { args := [.s (.e (.var 0))], pre := [], tin := [.int .i64], gin := [], res := .c (.ag twelve), post := [], tout := [.int .i64, .int .i64, .int .i64, .int .i64, .int .i64, .int .i64, .int .i64, .int .i64, .int .i64, .int .i64, .int .i64, .int .i64], gout := [] }
def kindSpec : Spec := fun ins K => ∃ k : Nat, k < 6 ∧ ins = [.int .i64 (k : Int)] ∧ K (kd k)
theorem conOK_kinds {P : Program} {G : List (Nat × List Sc)} {f : Nat} {F : Nat → Fun1} (h : ∀ k, k < 6 → ConOK P G f (sgKind k) (F k).spec) (hF : ∀ k, k < 6 → (F k).pre [] ∧ (F k).out [] = kd k) : ConOK P G f sgKindV kindSpec := by
  rintro w bs ins K g ⟨k, hk, rfl, hK⟩
  have hbs : bs = [] := List.eq_nil_of_length_eq_zero g.len
  subst hbs
  have g' : Given G (sgKind k) [] [] w :=
    { glob := g.glob
      globbs := g.globbs
      len := rfl
      nodup := List.nodup_nil
      typed := TypedL_nil'
      blk := fun k b h => by simp [sgKind] at h
      rows := fun x c n h => by cases h }
  obtain ⟨h1, h2⟩ := hF k hk
  refine (h k hk w [] [] K g' ⟨h1, by rw [h2]; exact hK⟩).mono ?_
  rintro e w' ⟨outs, bs', v, rfl, L⟩
  exact ⟨outs, bs', v, rfl, { post := L.post, typed := L.typed, len := L.len, old := L.old, new := L.new, nodup := L.nodup, res := L.res, blk := L.blk, rows := fun x c n h => (by cases h), os := L.os, tape := L.tape, output := L.output, size := L.size, frame := L.frame }⟩
theorem six_lt {p : Nat → Prop} (h0 : p 0) (h1 : p 1) (h2 : p 2) (h3 : p 3) (h4 : p 4) (h5 : p 5) : ∀ k, k < 6 → p k := by
  intro k hk
  rcases (by omega : k = 0 ∨ k = 1 ∨ k = 2 ∨ k = 3 ∨ k = 4 ∨ k = 5) with rfl | rfl | rfl | rfl | rfl | rfl
  · exact h0
  · exact h1
  · exact h2
  · exact h3
  · exact h4
  · exact h5
/-! rows of three numbers -/
def Fit3 (x c : Value) : Prop := ∃ a n cap, x = .slice a n cap ∧ c.cells.size = n * 3 ∧ n ≤ 9223372036854775807
def rq3 (c : Value) (k : Nat) : Q := (toI (c.cells.getD (k * 3 + 0) undef), toI (c.cells.getD (k * 3 + 1) undef), toI (c.cells.getD (k * 3 + 2) undef))
theorem inb_ok3 {c : Value} {n k : Nat} (hc : c.cells.size = n * 3) (hk : k < n) : (Value.bool (decide (0 ≤ toI (.int .i64 (k : Int)) ∧ ((toI (.int .i64 (k : Int))).toNat + 1) * 3 ≤ c.cells.size))) = .bool true := by
  congr 1
  rw [decide_eq_true_eq, hc]
  simp only [toI_int, Int.toNat_natCast]
  omega
def vQ (v : Q) : List Value := [.int .i64 v.1, .int .i64 v.2.1, .int .i64 v.2.2]
/-- The first place of a greatest one, of n. -/
def grt (x : Nat → Q) : Nat → Nat
  | 0 => 0
  | k + 1 => if cmpF (x k) (x (grt x k)) > 0 then k else grt x k
theorem grt_lt (x : Nat → Q) : ∀ n, 0 < n → grt x n < n
  | 0, h => by omega
  | 1, _ => by
    rw [grt]
    split
    · omega
    · exact Nat.zero_lt_one
  | n + 2, _ => by
    rw [grt]
    have := grt_lt x (n + 1) (by omega)
    split <;> omega
/-- The least and the greatest one, as the reference goes. -/
def loF (x : Nat → Q) : Nat → Q
  | 0 => zq
  | k + 1 => if k = 0 ∨ cmpF (x k) (loF x k) < 0 then x k else loF x k
def hiF (x : Nat → Q) : Nat → Q
  | 0 => zq
  | k + 1 => if k = 0 ∨ cmpF (x k) (hiF x k) > 0 then x k else hiF x k
theorem hi_grt {x : Nat → Q} : ∀ n, 0 < n → hiF x n = x (grt x n)
  | 0, h => by omega
  | 1, _ => by
    rw [hiF, if_pos (.inl rfl), grt]
    split
    · rfl
    · rfl
  | n + 2, _ => by
    rw [hiF, grt, hi_grt (n + 1) (by omega)]
    by_cases h : cmpF (x (n + 1)) (x (grt x (n + 1))) > 0
    · rw [if_pos (.inr h), if_pos h]
    · rw [if_neg (by rintro (h1 | h1); omega; exact h h1), if_neg h]
theorem lo_min {x : Nat → Q} : ∀ n, 0 < n → (∀ j, j < n → realQ (x j) = true) → realQ (loF x n) = true ∧ (∀ j, j < n → reR (loF x n) ≤ reR (x j)) ∧ ∃ j, j < n ∧ loF x n = x j
  | 0, h, _ => by omega
  | 1, _, hr => by
    rw [loF, if_pos (.inl rfl)]
    exact ⟨hr 0 (by omega), fun j hj => by obtain rfl : j = 0 := by omega
                                           exact Rat.le_refl, 0, by omega, rfl⟩
  | n + 2, _, hr => by
    obtain ⟨h1, h2, j0, h3, h4⟩ := lo_min (n + 1) (by omega) fun j hj => hr j (by omega)
    have hc := cmpF_lt (hr (n + 1) (by omega)) h1
    rw [loF]
    by_cases h : cmpF (x (n + 1)) (loF x (n + 1)) < 0
    · rw [if_pos (.inr h)]
      have hlt := hc.1 h
      refine ⟨hr _ (by omega), fun j hj => ?_, n + 1, by omega, rfl⟩
      by_cases hj' : j < n + 1
      · have := h2 j hj'; grind
      · obtain rfl : j = n + 1 := by omega
        exact Rat.le_refl
    · rw [if_neg (by rintro (h1 | h1); omega; exact h h1)]
      have hge : ¬ reR (x (n + 1)) < reR (loF x (n + 1)) := fun hh => h (hc.2 hh)
      refine ⟨h1, fun j hj => ?_, j0, by omega, h4⟩
      by_cases hj' : j < n + 1
      · exact h2 j hj'
      · obtain rfl : j = n + 1 := by omega
        grind
theorem hi_max {x : Nat → Q} : ∀ n, 0 < n → (∀ j, j < n → realQ (x j) = true) → realQ (hiF x n) = true ∧ (∀ j, j < n → reR (x j) ≤ reR (hiF x n)) ∧ ∃ j, j < n ∧ hiF x n = x j
  | 0, h, _ => by omega
  | 1, _, hr => by
    rw [hiF, if_pos (.inl rfl)]
    exact ⟨hr 0 (by omega), fun j hj => by obtain rfl : j = 0 := by omega
                                           exact Rat.le_refl, 0, by omega, rfl⟩
  | n + 2, _, hr => by
    obtain ⟨h1, h2, j0, h3, h4⟩ := hi_max (n + 1) (by omega) fun j hj => hr j (by omega)
    have hc := cmpF_gt (hr (n + 1) (by omega)) h1
    rw [hiF]
    by_cases h : cmpF (x (n + 1)) (hiF x (n + 1)) > 0
    · rw [if_pos (.inr h)]
      have hlt := hc.1 h
      refine ⟨hr _ (by omega), fun j hj => ?_, n + 1, by omega, rfl⟩
      by_cases hj' : j < n + 1
      · have := h2 j hj'; grind
      · obtain rfl : j = n + 1 := by omega
        exact Rat.le_refl
    · rw [if_neg (by rintro (h1 | h1); omega; exact h h1)]
      have hge : ¬ reR (hiF x (n + 1)) < reR (x (n + 1)) := fun hh => h (hc.2 hh)
      refine ⟨h1, fun j hj => ?_, j0, by omega, h4⟩
      by_cases hj' : j < n + 1
      · exact h2 j hj'
      · obtain rfl : j = n + 1 := by omega
        grind
/-- All are from nothing to one. -/
def inUnit (v : Q) : Bool := decide (cmpF v nil1 ≥ 0) && decide (cmpF v oneQ ≤ 0)
theorem inUnit_iff {v : Q} (h : realQ v = true) : inUnit v = true ↔ 0 ≤ reR v ∧ reR v ≤ 1 := by
  unfold inUnit
  rw [Bool.and_eq_true, decide_eq_true_eq, decide_eq_true_eq]
  have h1 := cmpF_lt h nil_real
  have h2 := cmpF_gt h one_real
  rw [nilQ_re] at h1
  rw [oneQ_re] at h2
  constructor
  · rintro ⟨a, b⟩
    have a' : ¬ reR v < 0 := fun hh => by have := h1.2 hh; omega
    have b' : ¬ 1 < reR v := fun hh => by have := h2.2 hh; omega
    grind
  · rintro ⟨a, b⟩
    refine ⟨?_, ?_⟩
    · have : ¬ cmpF v nil1 < 0 := fun hh => by have := h1.1 hh; grind
      omega
    · have : ¬ 0 < cmpF v oneQ := fun hh => by have := h2.1 hh; grind
      omega
theorem unit_all {x : Nat → Q} {n : Nat} (hn : 0 < n) (hr : ∀ j, j < n → realQ (x j) = true) : allB (fun k => inUnit (x k)) 0 n = (decide (0 ≤ (loF x n).1) && decide (cmpF (hiF x n) oneQ ≤ 0)) := by
  obtain ⟨l1, l2, jl, l3, l4⟩ := lo_min n hn hr
  obtain ⟨g1, g2, jg, g3, g4⟩ := hi_max n hn hr
  have hs := re_sign l1
  have hc := cmpF_gt g1 one_real
  rw [oneQ_re] at hc
  rw [Bool.eq_iff_iff]
  constructor
  · intro h
    have ha : ∀ j, j < n → 0 ≤ reR (x j) ∧ reR (x j) ≤ 1 := fun j hj => (inUnit_iff (hr j hj)).1 (allB_get h j (Nat.zero_le _) (by omega))
    rw [Bool.and_eq_true, decide_eq_true_eq, decide_eq_true_eq, hs]
    refine ⟨?_, ?_⟩
    · rw [l4]; exact (ha jl l3).1
    · have : ¬ 0 < cmpF (hiF x n) oneQ := fun hh => by
        have h1 := hc.1 hh
        rw [g4] at h1
        have := (ha jg g3).2
        grind
      omega
  · intro h
    rw [Bool.and_eq_true, decide_eq_true_eq, decide_eq_true_eq, hs] at h
    have h2 : ¬ 1 < reR (hiF x n) := fun hh => by have := hc.2 hh; omega
    have key : ∀ (m k : Nat), k + m ≤ n → allB (fun k => inUnit (x k)) k m = true := by
      intro m
      induction m with
      | zero => intro k _; rfl
      | succ m ih =>
        intro k hk
        rw [allB, ih (k + 1) (by omega), Bool.and_true]
        refine (inUnit_iff (hr k (by omega))).2 ⟨?_, ?_⟩
        · have := l2 k (by omega); have := h.1; grind
        · have := g2 k (by omega); grind
    exact key n 0 (by omega)
end Go.Sx

/- Films between two indexes, in rationals: signs turned, ways turned, nothing lost. -/
namespace Go.Sx
open Go
set_option linter.unusedVariables false
set_option linter.unusedSimpArgs false

theorem negQ_re (v : Q) : reR (negQ v) = -reR v := by
  unfold negQ reR
  rw [Rat.intCast_neg]
  grind
theorem negQ_im (v : Q) : imR (negQ v) = -imR v := by
  unfold negQ imR
  rw [Rat.intCast_neg]
  grind
theorem times_negL {x y v : Q} (h : timesQ x y = some v) : timesQ (negQ x) y = some (negQ v) := by
  obtain ⟨hx, hy⟩ := times_args h
  obtain ⟨h1, h2⟩ := times_val h
  refine times_of (negQ_valid hx) hy (negQ_valid (times_valid h)) ?_ ?_
  · rw [negQ_re, negQ_re, negQ_im, h1]; grind
  · rw [negQ_im, negQ_re, negQ_im, h2]; grind
theorem times_negR {x y v : Q} (h : timesQ x y = some v) : timesQ x (negQ y) = some (negQ v) := by
  obtain ⟨hx, hy⟩ := times_args h
  obtain ⟨h1, h2⟩ := times_val h
  refine times_of hx (negQ_valid hy) (negQ_valid (times_valid h)) ?_ ?_
  · rw [negQ_re, negQ_re, negQ_im, h1]; grind
  · rw [negQ_im, negQ_re, negQ_im, h2]; grind
theorem add_neg {x y v : Q} (h : addQ x y = some v) : addQ (negQ x) (negQ y) = some (negQ v) := by
  obtain ⟨hx, hy⟩ := add_args h
  obtain ⟨h1, h2⟩ := add_val h
  refine add_of (negQ_valid hx) (negQ_valid hy) (negQ_valid (add_valid h)) ?_ ?_
  · rw [negQ_re, negQ_re, negQ_re, h1]; grind
  · rw [negQ_im, negQ_im, negQ_im, h2]; grind
theorem less_neg {x y v : Q} (h : lessQ x y = some v) : lessQ (negQ x) (negQ y) = some (negQ v) := by
  obtain ⟨hx, hy⟩ := less_args h
  obtain ⟨h1, h2⟩ := less_val h
  refine less_of (negQ_valid hx) (negQ_valid hy) (negQ_valid (less_valid h)) ?_ ?_
  · rw [negQ_re, negQ_re, negQ_re, h1]; grind
  · rw [negQ_im, negQ_im, negQ_im, h2]; grind
theorem mix_neg {a p b q v : Q} (h : mixQ a p b q = some v) : mixQ (negQ a) p (negQ b) q = some (negQ v) := by
  unfold mixQ at h ⊢
  obtain ⟨x, hx, h⟩ := Option.bind_eq_some_iff.1 h
  obtain ⟨y, hy, h⟩ := Option.bind_eq_some_iff.1 h
  rw [times_negL hx, Option.bind_some, times_negL hy, Option.bind_some, add_neg h]
theorem negQ_negQ (v : Q) : negQ (negQ v) = v := by
  obtain ⟨a, b, c⟩ := v
  simp [negQ]
theorem turn_neg {b t : Q} (hb : validQ b = true) (hz : ¬ (b.1 = 0 ∧ b.2.1 = 0)) (h : turnQ b = some t) : turnQ (negQ b) = some (negQ t) := by
  obtain ⟨_, _, _, _, _, _, l, p1⟩ := turn_facts hb hz
  unfold turnQ at h ⊢
  obtain ⟨t1, t2⟩ := low_val (by omega) h
  have e : (negQ b).1 * (negQ b).1 + (negQ b).2.1 * (negQ b).2.1 = b.1 * b.1 + b.2.1 * b.2.1 := by
    simp [negQ, Int.neg_mul_neg]
  rw [e]
  have hv : validQ t = true := low_valid l h
  refine low_of_val (by omega) (negQ_valid hv) ?_ ?_
  · rw [negQ_re, t1]
    simp only [negQ, Rat.intCast_mul, Rat.intCast_neg]
    grind
  · rw [negQ_im, t2]
    simp only [negQ, Rat.intCast_mul, Rat.intCast_neg]
    grind
theorem over_neg {a b v : Q} (h : overQ a b = some v) : overQ (negQ a) (negQ b) = some v := by
  obtain ⟨ha, hb, hz, hv⟩ := over_args h
  have e : (b.1 == 0 && b.2.1 == 0) = false := by
    cases hq : (b.1 == 0 && b.2.1 == 0) with
    | false => rfl
    | true => exact absurd (by simpa using hq) hz
  have e' : ((negQ b).1 == 0 && (negQ b).2.1 == 0) = false := by
    cases hq : ((negQ b).1 == 0 && (negQ b).2.1 == 0) with
    | false => rfl
    | true => exact absurd (by simpa [negQ] using hq) hz
  unfold overQ at h ⊢
  rw [ha, hb, e] at h
  rw [negQ_valid ha, negQ_valid hb, e']
  simp only [Bool.not_false, Bool.and_self, if_true] at h ⊢
  obtain ⟨t, ht, hm⟩ := Option.bind_eq_some_iff.1 h
  rw [turn_neg hb hz ht, Option.bind_some, times_negL (times_negR hm), negQ_negQ]
/-! between two indexes -/
/-- What 'film' makes of a matrix and two indexes. -/
theorem ends_some {m : Nat → Q} {t : Bool} {a b : Q} {x : Q × Q} (h : endsQ m t a b = some x) : t = true ∧ (idxQ a && idxQ b) = true ∧ (matQ m && jonesQ oneQ b) = true ∧
    ∃ X, applyD m oneQ b 0 = some X ∧ applyD m oneQ b 1 = some x.2 ∧ timesQ a X = some x.1 := by
  unfold endsQ at h
  split at h
  · rename_i h1
    rw [Bool.and_eq_true] at h1
    split at h
    · rename_i h2
      obtain ⟨X, hX, h⟩ := Option.bind_eq_some_iff.1 h
      obtain ⟨Y, hY, h⟩ := Option.bind_eq_some_iff.1 h
      obtain ⟨p, hp, h⟩ := Option.bind_eq_some_iff.1 h
      cases h
      exact ⟨h1.1, h1.2, h2, X, hX, hY, hp⟩
    · cases h
  · cases h
theorem ends_intro {m : Nat → Q} {a b X Y p : Q} (h1 : (idxQ a && idxQ b) = true) (h2 : (matQ m && jonesQ oneQ b) = true) (hX : applyD m oneQ b 0 = some X) (hY : applyD m oneQ b 1 = some Y) (hp : timesQ a X = some p) : endsQ m true a b = some (p, Y) := by
  unfold endsQ
  rw [h1, h2, hX, hY]
  simp only [Bool.and_self, if_true, Option.bind_some, hp]
theorem mat_valids {f : Nat → Q} (h : matQ f = true) : ∀ i, i < 4 → validQ (f i) = true := fun i hi => allB_get h i (Nat.zero_le _) (by omega)
theorem mat_of {f : Nat → Q} (h : ∀ i, i < 4 → validQ (f i) = true) : matQ f = true := by
  unfold matQ
  simp only [allB, Nat.zero_add, Nat.reduceAdd, h 0 (by omega), h 1 (by omega), h 2 (by omega), h 3 (by omega), Bool.and_self]
theorem ends_neg {m m' : Nat → Q} {t : Bool} {a b : Q} {x : Q × Q} (hm : ∀ i, i < 4 → m' i = negQ (m i)) (h : endsQ m t a b = some x) : endsQ m' true a b = some (negQ x.1, negQ x.2) := by
  obtain ⟨_, h1, h2, X, hX, hY, hp⟩ := ends_some h
  rw [Bool.and_eq_true] at h2
  have hv := mat_valids h2.1
  refine ends_intro h1 ?_ (X := negQ X) ?_ ?_ (times_negR hp)
  · rw [mat_of fun i hi => by rw [hm i hi]; exact negQ_valid (hv i hi), h2.2]; rfl
  · unfold applyD at hX ⊢
    rw [hm (2 * 0) (by omega), hm (2 * 0 + 1) (by omega)]
    exact mix_neg hX
  · unfold applyD at hY ⊢
    rw [hm (2 * 1) (by omega), hm (2 * 1 + 1) (by omega)]
    exact mix_neg hY
theorem film_some {m : Nat → Q} {t : Bool} {a b : Q} {x : Q × Q × Q} (h : filmE m t a b = some x) : endsQ m t a b = some (x.1, x.2.1) ∧ addQ x.1 x.2.1 = some x.2.2 ∧ isZ x.2.2 = false := by
  unfold filmE at h
  obtain ⟨y, hy, h⟩ := Option.bind_eq_some_iff.1 h
  obtain ⟨s, hs, h⟩ := Option.bind_eq_some_iff.1 h
  split at h
  · cases h
  · rename_i hz
    cases h
    exact ⟨hy, hs, by simpa using hz⟩
theorem refl_some {m : Nat → Q} {t : Bool} {a b r : Q} (h : reflQ m t a b = some r) : ∃ p c s d, endsQ m t a b = some (p, c) ∧ addQ p c = some s ∧ isZ s = false ∧ lessQ p c = some d ∧ overQ d s = some r := by
  unfold reflQ at h
  obtain ⟨x, hx, h⟩ := Option.bind_eq_some_iff.1 h
  obtain ⟨d, hd, h⟩ := Option.bind_eq_some_iff.1 h
  obtain ⟨h1, h2, h3⟩ := film_some hx
  exact ⟨_, _, _, d, h1, h2, h3, hd, h⟩
theorem pass_some {m : Nat → Q} {t : Bool} {a b r : Q} (h : passQ m t a b = some r) : ∃ p c s d, endsQ m t a b = some (p, c) ∧ addQ p c = some s ∧ isZ s = false ∧ timesQ (2, 0, 1) a = some d ∧ overQ d s = some r := by
  unfold passQ at h
  obtain ⟨x, hx, h⟩ := Option.bind_eq_some_iff.1 h
  obtain ⟨d, hd, h⟩ := Option.bind_eq_some_iff.1 h
  obtain ⟨h1, h2, h3⟩ := film_some hx
  exact ⟨_, _, _, d, h1, h2, h3, hd, h⟩
/-- A matrix of turned signs reflects as much. -/
theorem refl_neg {m m' : Nat → Q} {t : Bool} {a b r : Q} (hm : ∀ i, i < 4 → m' i = negQ (m i)) (h : reflQ m t a b = some r) : reflQ m' true a b = some r := by
  obtain ⟨p, c, s, d, h1, h2, h3, h4, h5⟩ := refl_some h
  have hz : isZ (negQ s) = false := by
    cases hq : isZ (negQ s) with
    | false => rfl
    | true =>
      unfold isZ at hq h3
      have : (s.1 == 0 && (s.2.1 == 0 && s.2.2 == 1)) = true := by simpa [negQ] using hq
      rw [this] at h3
      cases h3
  unfold reflQ filmE
  rw [ends_neg hm h1]
  simp only [Option.bind_some, add_neg h2, hz, Bool.false_eq_true, if_false, less_neg h4]
  exact over_neg h5
/-! values -/
/-- What stands below, and above: real and imaginary parts. -/
theorem ends_val {m : Nat → Q} {t : Bool} {a b p c : Q} (h : endsQ m t a b = some (p, c)) :
    reR p = reR a * (reR (m 0) + (reR (m 1) * reR b - imR (m 1) * imR b)) - imR a * (imR (m 0) + (reR (m 1) * imR b + imR (m 1) * reR b)) ∧
    imR p = reR a * (imR (m 0) + (reR (m 1) * imR b + imR (m 1) * reR b)) + imR a * (reR (m 0) + (reR (m 1) * reR b - imR (m 1) * imR b)) ∧
    reR c = reR (m 2) + (reR (m 3) * reR b - imR (m 3) * imR b) ∧ imR c = imR (m 2) + (reR (m 3) * imR b + imR (m 3) * reR b) := by
  obtain ⟨_, _, _, X, hX, hY, hp⟩ := ends_some h
  unfold applyD at hX hY
  obtain ⟨x1, x2, _⟩ := mix_val hX
  obtain ⟨y1, y2, _⟩ := mix_val hY
  obtain ⟨p1, p2⟩ := times_val hp
  have hY1 : reR c = _ := y1
  have hY2 : imR c = _ := y2
  have hp1 : reR p = _ := p1
  have hp2 : imR p = _ := p2
  rw [x1, x2] at hp1 hp2
  rw [hp1, hp2, hY1, hY2, oneQ_re, oneQ_im]
  simp only [Nat.mul_zero, Nat.zero_add, Nat.mul_one, Nat.reduceAdd]
  refine ⟨?_, ?_, ?_, ?_⟩ <;> grind
theorem sq_nn (x : Rat) : 0 ≤ x * x := by
  by_cases h : 0 ≤ x
  · exact Rat.mul_nonneg h h
  · have h' : 0 ≤ -x := by grind
    have := Rat.mul_nonneg h' h'
    grind
/-- No complex number times one that is not nothing is nothing, but nothing. -/
theorem cancel {d1 d2 s1 s2 : Rat} (h1 : d1 * s1 - d2 * s2 = 0) (h2 : d1 * s2 + d2 * s1 = 0) (hn : ¬ (s1 = 0 ∧ s2 = 0)) : d1 = 0 ∧ d2 = 0 := by
  have e1 : d1 * (s1 * s1 + s2 * s2) = 0 := by grind
  have e2 : d2 * (s1 * s1 + s2 * s2) = 0 := by grind
  have hs : s1 * s1 + s2 * s2 ≠ 0 := fun h => by
    have a1 : 0 ≤ s1 * s1 := sq_nn _
    have a2 : 0 ≤ s2 * s2 := sq_nn _
    have b1 : s1 * s1 = 0 := by grind
    have b2 : s2 * s2 = 0 := by grind
    refine hn ⟨?_, ?_⟩
    · rcases Rat.mul_eq_zero.1 b1 with h | h <;> exact h
    · rcases Rat.mul_eq_zero.1 b2 with h | h <;> exact h
  exact ⟨(Rat.mul_eq_zero.1 e1).resolve_right hs, (Rat.mul_eq_zero.1 e2).resolve_right hs⟩
end Go.Sx

/- What passes, what is lost, and films of the same matrix. -/
namespace Go.Sx
open Go
set_option linter.unusedVariables false
set_option linter.unusedSimpArgs false

theorem two_reQ : reR (2, 0, 1) = 2 := by decide +kernel
theorem two_imQ : imR (2, 0, 1) = 0 := by decide +kernel
theorem isZ_nz {s : Q} (hs : validQ s = true) (h : isZ s = false) : ¬ (reR s = 0 ∧ imR s = 0) := by
  refine nz_of hs ?_
  rintro ⟨h1, h2⟩
  obtain ⟨a, b, d⟩ := s
  have h1 : a = 0 := h1
  have h2 : b = 0 := h2
  subst h1 h2
  have hz : (0, 0, d) = nil1 := val_inj hs nil1_valid (by unfold reR nil1; simp [Rat.div_def]) (by unfold imR nil1; simp [Rat.div_def])
  rw [hz] at h
  cases h
/-- What passes one way passes the other. -/
theorem pass_two {m m' : Nat → Q} {t t' : Bool} {a b out x y z : Q} (h : passQ m t a b = some out) (h' : passQ m' t' b a = some x) (e0 : m' 0 = m 3) (e3 : m' 3 = m 0) (e1 : m' 1 = m 1) (e2 : m' 2 = m 2)
    (hy : timesQ x a = some y) (hz : timesQ out b = some z) : y = z := by
  obtain ⟨p, c, s, d, h1, h2, h3, h4, h5⟩ := pass_some h
  obtain ⟨p', c', s', d', g1, g2, g3, g4, g5⟩ := pass_some h'
  obtain ⟨v1, v2, v3, v4⟩ := ends_val h1
  obtain ⟨w1, w2, w3, w4⟩ := ends_val g1
  rw [e0, e1] at w1 w2
  rw [e2, e3] at w3 w4
  obtain ⟨s1, s2⟩ := add_val h2
  obtain ⟨r1, r2⟩ := add_val g2
  obtain ⟨d1, d2⟩ := times_val h4
  obtain ⟨q1, q2⟩ := times_val g4
  obtain ⟨o1, o2⟩ := over_val h5
  obtain ⟨x1, x2⟩ := over_val g5
  obtain ⟨y1, y2⟩ := times_val hy
  obtain ⟨z1, z2⟩ := times_val hz
  have es1 : reR s' = reR s := by rw [s1, r1, v1, v3, w1, w3]; grind
  have es2 : imR s' = imR s := by rw [s2, r2, v2, v4, w2, w4]; grind
  rw [two_reQ, two_imQ] at d1 d2 q1 q2
  rw [es1, es2, q1] at x1
  rw [es1, es2, q2] at x2
  rw [d1] at o1
  rw [d2] at o2
  have hn := isZ_nz (add_valid h2) h3
  obtain ⟨f1, f2⟩ := cancel (d1 := reR y - reR z) (d2 := imR y - imR z) (s1 := reR s) (s2 := imR s) (by rw [y1, y2, z1, z2]; grind) (by rw [y1, y2, z1, z2]; grind) hn
  exact val_inj (times_valid hy) (times_valid hz) (by grind) (by grind)
/-! clear films -/
/-- A matrix of a clear film. -/
def Clear (m : Nat → Q) : Prop := imR (m 0) = 0 ∧ reR (m 1) = 0 ∧ reR (m 2) = 0 ∧ imR (m 3) = 0
theorem clear_id {s : Q} (hs : s = oneQ ∨ s = minQ) : Clear (idM s) := by
  unfold Clear idM
  rcases hs with rfl | rfl
  · exact ⟨oneQ_im, nilQ_re, nilQ_re, oneQ_im⟩
  · exact ⟨minQ_im, nilQ_re, nilQ_re, minQ_im⟩
theorem clear_lay {x : Q} {qt : Int} {L : Nat → Q} (h : ∀ i, i < 4 → layD x qt i = some (L i)) (hx : imR x = 0) : Clear L := by
  rcases lay_cases h with ⟨s, hs, e⟩ | ⟨e0, e3, e1, e2⟩
  · obtain ⟨c1, c2, c3, c4⟩ := clear_id hs
    unfold Clear
    rw [e 0 (by omega), e 1 (by omega), e 2 (by omega), e 3 (by omega)]
    exact ⟨c1, c2, c3, c4⟩
  · unfold Clear
    rw [e0, e3]
    obtain ⟨_, hv, hz, _⟩ := over_args e1
    have hn := nz_of hv hz
    have hx0 : reR x ≠ 0 := fun h0 => hn ⟨h0, hx⟩
    obtain ⟨o1, o2⟩ := over_val e1
    obtain ⟨t1, t2⟩ := times_val e2
    have u := unitQ_re qt
    rw [hx, u] at o1
    rw [hx, u] at t1
    refine ⟨nilQ_im, ?_, by rw [t1]; grind, nilQ_im⟩
    have : reR (L 1) * reR x = 0 := by grind
    exact (Rat.mul_eq_zero.1 this).resolve_right hx0
theorem clear_mul {a b o : Nat → Q} (h : ∀ i, i < 4 → mulM a b i = some (o i)) (ha : Clear a) (hb : Clear b) : Clear o := by
  have hv := mul_val h
  obtain ⟨a0, a1, a2, a3⟩ := ha
  obtain ⟨b0', b1, b2, b3⟩ := hb
  unfold Clear
  rw [(hv 0 (by omega)).2.1, (hv 1 (by omega)).1, (hv 2 (by omega)).1, (hv 3 (by omega)).2.1]
  unfold mp mq
  simp only [Nat.reduceDiv, Nat.reduceMod, Nat.reduceMul, Nat.reduceAdd, a0, a1, a2, a3, b0', b1, b2, b3]
  refine ⟨?_, ?_, ?_, ?_⟩ <;> grind
theorem pows_some {m : Nat → Q} {t : Bool} {a b : Q} {x : Q × Q} (h : powsQ m t a b = some x) : ∃ r u v y w z, reflQ m t a b = some r ∧ passQ m t a b = some u ∧ powQ r = some x.1 ∧ powQ u = some v ∧ reQ b = some y ∧ timesQ v y = some w ∧ reQ a = some z ∧ overQ w z = some x.2 := by
  unfold powsQ at h
  obtain ⟨r, hr, h⟩ := Option.bind_eq_some_iff.1 h
  obtain ⟨u, hu, h⟩ := Option.bind_eq_some_iff.1 h
  obtain ⟨p, hp, h⟩ := Option.bind_eq_some_iff.1 h
  obtain ⟨v, hv, h⟩ := Option.bind_eq_some_iff.1 h
  obtain ⟨y, hy, h⟩ := Option.bind_eq_some_iff.1 h
  obtain ⟨w, hw, h⟩ := Option.bind_eq_some_iff.1 h
  obtain ⟨z, hz, h⟩ := Option.bind_eq_some_iff.1 h
  simp only [Option.bind_eq_some_iff, Option.map_eq_some_iff] at h
  obtain ⟨q, hq, h⟩ := h
  cases h
  exact ⟨r, u, v, y, w, z, hr, hu, hp, hv, hy, hw, hz, hq⟩
/-- The squares' law. -/
theorem lost_none {a b m0 m1 m2 m3 p1 p2 c1 c2 s1 s2 r1 r2 u1 u2 P V W : Rat} (hd : m0 * m3 + m1 * m2 = 1) (hp1 : p1 = a * m0) (hp2 : p2 = a * (m1 * b)) (hc1 : c1 = m3 * b) (hc2 : c2 = m2)
    (hs1 : s1 = p1 + c1) (hs2 : s2 = p2 + c2) (hn : ¬ (s1 = 0 ∧ s2 = 0)) (hr1 : r1 * s1 - r2 * s2 = p1 - c1) (hr2 : r1 * s2 + r2 * s1 = p2 - c2) (hu1 : u1 * s1 - u2 * s2 = 2 * a) (hu2 : u1 * s2 + u2 * s1 = 0)
    (hP : P = r1 * r1 + r2 * r2) (hV : V = u1 * u1 + u2 * u2) (hW : W * a = V * b) (ha : a ≠ 0) : P + W = 1 := by
  have hN : s1 * s1 + s2 * s2 ≠ 0 := fun h => by
    have a1 := sq_nn s1
    have a2 := sq_nn s2
    refine hn ⟨?_, ?_⟩
    · rcases Rat.mul_eq_zero.1 (show s1 * s1 = 0 by grind) with h | h <;> exact h
    · rcases Rat.mul_eq_zero.1 (show s2 * s2 = 0 by grind) with h | h <;> exact h
  have eP : P * (s1 * s1 + s2 * s2) = (p1 - c1) * (p1 - c1) + (p2 - c2) * (p2 - c2) := by
    rw [hP, ← hr1, ← hr2]; grind
  have eV : V * (s1 * s1 + s2 * s2) = 4 * (a * a) := by
    have : V * (s1 * s1 + s2 * s2) = (u1 * s1 - u2 * s2) * (u1 * s1 - u2 * s2) + (u1 * s2 + u2 * s1) * (u1 * s2 + u2 * s1) := by rw [hV]; grind
    rw [this, hu1, hu2]; grind
  have eW : W * (s1 * s1 + s2 * s2) = 4 * (a * b) := by
    have h1 : (W * (s1 * s1 + s2 * s2) - 4 * (a * b)) * a = 0 := by
      have : (W * (s1 * s1 + s2 * s2) - 4 * (a * b)) * a = (W * a) * (s1 * s1 + s2 * s2) - 4 * (a * b) * a := by grind
      rw [this, hW]
      have : V * b * (s1 * s1 + s2 * s2) = (V * (s1 * s1 + s2 * s2)) * b := by grind
      rw [this, eV]; grind
    have := (Rat.mul_eq_zero.1 h1).resolve_right ha
    grind
  have ePC : p1 * c1 + p2 * c2 = a * b := by
    have : p1 * c1 + p2 * c2 = a * b * (m0 * m3 + m1 * m2) := by rw [hp1, hp2, hc1, hc2]; grind
    rw [this, hd]; grind
  have e0 : (P + W - 1) * (s1 * s1 + s2 * s2) = 0 := by
    have : (P + W - 1) * (s1 * s1 + s2 * s2) = P * (s1 * s1 + s2 * s2) + W * (s1 * s1 + s2 * s2) - (s1 * s1 + s2 * s2) := by grind
    rw [this, eP, eW, hs1, hs2]
    have : (p1 - c1) * (p1 - c1) + (p2 - c2) * (p2 - c2) + 4 * (a * b) - ((p1 + c1) * (p1 + c1) + (p2 + c2) * (p2 + c2)) = 4 * (a * b) - 4 * (p1 * c1 + p2 * c2) := by grind
    rw [this, ePC]; grind
  have := (Rat.mul_eq_zero.1 e0).resolve_right hN
  grind
/-- Nothing is lost in clear films. -/
theorem pows_one {m : Nat → Q} {t : Bool} {a b : Q} {x : Q × Q} {s : Q} (h : powsQ m t a b = some x) (hc : Clear m) (hu : Uni m) (ha : imR a = 0) (hb : imR b = 0) (hs : addQ x.1 x.2 = some s) : s = oneQ := by
  obtain ⟨r, u, v, y, w, z, h1, h2, h3, h4, h5, h6, h7, h8⟩ := pows_some h
  obtain ⟨p, c, q, d, r1, r2, r3, r4, r5⟩ := refl_some h1
  obtain ⟨p', c', q', d', u1, u2, u3, u4, u5⟩ := pass_some h2
  rw [r1] at u1
  cases u1
  rw [r2] at u2
  cases u2
  obtain ⟨v1, v2, v3, v4⟩ := ends_val r1
  obtain ⟨s1, s2⟩ := add_val r2
  obtain ⟨d1, d2⟩ := less_val r4
  obtain ⟨o1, o2⟩ := over_val r5
  obtain ⟨e1, e2⟩ := times_val u4
  obtain ⟨f1, f2⟩ := over_val u5
  obtain ⟨P1, P2⟩ := pow_val h3
  obtain ⟨V1, V2⟩ := pow_val h4
  obtain ⟨y1, y2, _⟩ := re_val h5
  obtain ⟨w1, w2⟩ := times_val h6
  obtain ⟨z1, z2, z3⟩ := re_val h7
  obtain ⟨x1, x2⟩ := over_val h8
  obtain ⟨_, _, hz0, _⟩ := over_args h8
  obtain ⟨t1, t2⟩ := add_val hs
  have hn := isZ_nz (add_valid r2) r3
  obtain ⟨c0, c1, c2, c3⟩ := hc
  obtain ⟨k1, k2⟩ := hu
  unfold dre at k1
  dsimp only at k1
  rw [c0, c1, c2, c3] at k1
  rw [ha, hb, c0, c1] at v1 v2
  rw [hb, c2, c3] at v3
  rw [hb, c3] at v4
  rw [two_reQ, two_imQ, ha] at e1 e2
  rw [d1] at o1
  rw [d2] at o2
  rw [e1] at f1
  rw [e2] at f2
  rw [z1, z2] at x1 x2
  rw [V2, y2] at w1 w2
  rw [y1] at w1
  have ha0 : reR a ≠ 0 := fun h0 => nz_of z3 hz0 ⟨by rw [z1]; exact h0, z2⟩
  have hW : reR x.2 * reR a = reR v * reR b := by rw [w1] at x1; grind
  have him : imR x.2 = 0 := by
    have : imR x.2 * reR a = 0 := by rw [w2] at x2; grind
    exact (Rat.mul_eq_zero.1 this).resolve_right ha0
  have key := lost_none (a := reR a) (b := reR b) (m0 := reR (m 0)) (m1 := imR (m 1)) (m2 := imR (m 2)) (m3 := reR (m 3)) (p1 := reR p) (p2 := imR p) (c1 := reR c) (c2 := imR c) (s1 := reR q) (s2 := imR q) (r1 := reR r) (r2 := imR r) (u1 := reR u) (u2 := imR u) (P := reR x.1) (V := reR v) (W := reR x.2)
    (by grind) (by rw [v1]; grind) (by rw [v2]; grind) (by rw [v3]; grind) (by rw [v4]; grind) s1 s2 hn o1 o2 (by rw [f1]; grind) (by rw [f2]; grind) P1 V1 hW ha0
  refine val_inj (add_valid hs) oneQ_valid ?_ ?_
  · rw [t1, key, oneQ_re]
  · rw [t2, P2, him, oneQ_im]; grind
/-! films of the same matrix -/
theorem good_val {a b : Nat → Q} {i k : Nat} (h : good a b i k = true) : reR (a i) * reR (b k) - imR (a i) * imR (b k) = reR (a k) * reR (b i) - imR (a k) * imR (b i) ∧ reR (a i) * imR (b k) + imR (a i) * reR (b k) = reR (a k) * imR (b i) + imR (a k) * reR (b i) := by
  unfold good at h
  split at h
  · rename_i x y hx hy
    obtain ⟨x1, x2⟩ := times_val hx
    obtain ⟨y1, y2⟩ := times_val hy
    have e : x = y := by
      unfold eqB at h
      obtain ⟨p, q, r⟩ := x
      obtain ⟨p', q', r'⟩ := y
      simp at h
      simp [h]
    subst e
    exact ⟨x1.symm.trans y1, x2.symm.trans y2⟩
  · cases h
theorem alike_comm {a b : Nat → Q} (h : alikeB a b = true) : alikeB b a = true := by
  unfold alikeB at h ⊢
  simp only [Bool.and_eq_true] at h ⊢
  obtain ⟨⟨h1, h2⟩, h3, h4⟩ := h
  refine ⟨⟨h2, h1⟩, by rw [Bool.beq_comm]; exact h3, ?_⟩
  unfold crossB at h4 ⊢
  rw [List.all_eq_true] at h4 ⊢
  intro x hx
  have := h4 x hx
  unfold good at this ⊢
  rw [times_comm (b x.1), times_comm (b x.2)]
  cases ha : timesQ (a x.1) (b x.2) with
  | none => rw [ha] at this; cases this
  | some u =>
    cases hb : timesQ (a x.2) (b x.1) with
    | none => rw [ha, hb] at this; cases this
    | some v =>
      have this : eqB u v = true := by rw [ha, hb] at this; exact this
      show eqB v u = true
      rw [eqB_symm]; exact this
theorem alike_get {a b : Nat → Q} (h : alikeB a b = true) : good a b 1 0 = true ∧ good a b 2 0 = true ∧ good a b 2 1 = true ∧ good a b 3 0 = true ∧ good a b 3 1 = true ∧ good a b 3 2 = true := by
  unfold alikeB crossB pairs6 at h
  simp only [Bool.and_eq_true, List.all_cons, List.all_nil, Bool.and_true] at h
  obtain ⟨_, _, h1, h2, h3, h4, h5, h6⟩ := h
  exact ⟨h1, h2, h3, h4, h5, h6⟩
theorem cross_lin {A B p0 p1 p2 p3 q0 q1 q2 q3' r0 r1 r2 r3 s0 s1 s2 s3 : Rat} (h20 : p0 * r2 - q0 * s2 = p2 * r0 - q2 * s0) (h21 : p1 * r2 - q1 * s2 = p2 * r1 - q2 * s1) (h30 : p0 * r3 - q0 * s3 = p3 * r0 - q3' * s0) (h31 : p1 * r3 - q1 * s3 = p3 * r1 - q3' * s1) :
    (A * (p0 + p1 * B)) * (r2 + r3 * B) - (A * (q0 + q1 * B)) * (s2 + s3 * B) = (p2 + p3 * B) * (A * (r0 + r1 * B)) - (q2 + q3' * B) * (A * (s0 + s1 * B)) := by
  have e : (A * (p0 + p1 * B)) * (r2 + r3 * B) - (A * (q0 + q1 * B)) * (s2 + s3 * B) - ((p2 + p3 * B) * (A * (r0 + r1 * B)) - (q2 + q3' * B) * (A * (s0 + s1 * B))) =
      A * ((p0 * r2 - q0 * s2) - (p2 * r0 - q2 * s0)) + A * B * (((p1 * r2 - q1 * s2) - (p2 * r1 - q2 * s1)) + ((p0 * r3 - q0 * s3) - (p3 * r0 - q3' * s0))) + A * B * B * ((p1 * r3 - q1 * s3) - (p3 * r1 - q3' * s1)) := by grind
  rw [h20, h21, h30, h31] at e
  grind
theorem turn_lin {x1 x2 y1 y2 s1 s2 t1 t2 d1 d2 e1 e2 p1 p2 c1 c2 p1' p2' c1' c2' : Rat} (o1 : x1 * s1 - x2 * s2 = d1) (o2 : x1 * s2 + x2 * s1 = d2) (q1 : y1 * t1 - y2 * t2 = e1) (q2 : y1 * t2 + y2 * t1 = e2)
    (hs1 : s1 = p1 + c1) (hs2 : s2 = p2 + c2) (ht1 : t1 = p1' + c1') (ht2 : t2 = p2' + c2') (hd1 : d1 = p1 - c1) (hd2 : d2 = p2 - c2) (he1 : e1 = p1' - c1') (he2 : e2 = p2' - c2')
    (z1 : p1 * c1' - p2 * c2' = c1 * p1' - c2 * p2') (z2 : p1 * c2' + p2 * c1' = c1 * p2' + c2 * p1') :
    ((x1 - y1) * s1 - (x2 - y2) * s2) * t1 - ((x1 - y1) * s2 + (x2 - y2) * s1) * t2 = 0 ∧ ((x1 - y1) * s1 - (x2 - y2) * s2) * t2 + ((x1 - y1) * s2 + (x2 - y2) * s1) * t1 = 0 := by
  have f1 : ((x1 - y1) * s1 - (x2 - y2) * s2) * t1 - ((x1 - y1) * s2 + (x2 - y2) * s1) * t2 = (d1 * t1 - d2 * t2) - (e1 * s1 - e2 * s2) := by rw [← o1, ← o2, ← q1, ← q2]; grind
  have f2 : ((x1 - y1) * s1 - (x2 - y2) * s2) * t2 + ((x1 - y1) * s2 + (x2 - y2) * s1) * t1 = (d1 * t2 + d2 * t1) - (e1 * s2 + e2 * s1) := by rw [← o1, ← o2, ← q1, ← q2]; grind
  rw [f1, f2, hd1, hd2, he1, he2, hs1, hs2, ht1, ht2]
  constructor <;> grind
theorem refl_same {m n : Nat → Q} {t t' : Bool} {a b x y : Q} (h : alikeB m n = true) (ha : imR a = 0) (hb : imR b = 0) (hx : reflQ m t a b = some x) (hy : reflQ n t' a b = some y) : x = y := by
  obtain ⟨p, c, s, d, h1, h2, h3, h4, h5⟩ := refl_some hx
  obtain ⟨p', c', s', d', g1, g2, g3, g4, g5⟩ := refl_some hy
  obtain ⟨v1, v2, v3, v4⟩ := ends_val h1
  obtain ⟨w1, w2, w3, w4⟩ := ends_val g1
  obtain ⟨s1, s2⟩ := add_val h2
  obtain ⟨r1, r2⟩ := add_val g2
  obtain ⟨d1, d2⟩ := less_val h4
  obtain ⟨e1, e2⟩ := less_val g4
  obtain ⟨o1, o2⟩ := over_val h5
  obtain ⟨q1, q2⟩ := over_val g5
  obtain ⟨k1, k2, k3, k4, k5, k6⟩ := alike_get h
  obtain ⟨a1, a2⟩ := good_val k1
  obtain ⟨b1, b2⟩ := good_val k2
  obtain ⟨c1, c2⟩ := good_val k3
  obtain ⟨f1, f2⟩ := good_val k4
  obtain ⟨i1, i2⟩ := good_val k5
  obtain ⟨j1, j2⟩ := good_val k6
  rw [ha, hb] at v1 v2 w1 w2
  rw [hb] at v3 v4 w3 w4
  have hn := isZ_nz (add_valid h2) h3
  have hn' := isZ_nz (add_valid g2) g3
  have v1 : reR p = reR a * (reR (m 0) + reR (m 1) * reR b) := by rw [v1]; grind
  have v2 : imR p = reR a * (imR (m 0) + imR (m 1) * reR b) := by rw [v2]; grind
  have v3 : reR c = reR (m 2) + reR (m 3) * reR b := by rw [v3]; grind
  have v4 : imR c = imR (m 2) + imR (m 3) * reR b := by rw [v4]; grind
  have w1 : reR p' = reR a * (reR (n 0) + reR (n 1) * reR b) := by rw [w1]; grind
  have w2 : imR p' = reR a * (imR (n 0) + imR (n 1) * reR b) := by rw [w2]; grind
  have w3 : reR c' = reR (n 2) + reR (n 3) * reR b := by rw [w3]; grind
  have w4 : imR c' = imR (n 2) + imR (n 3) * reR b := by rw [w4]; grind
  have z1 : reR p * reR c' - imR p * imR c' = reR c * reR p' - imR c * imR p' := by
    rw [v1, v2, v3, v4, w1, w2, w3, w4]
    exact cross_lin b1.symm c1.symm f1.symm i1.symm
  have z2 : reR p * imR c' + imR p * reR c' = reR c * imR p' + imR c * reR p' := by
    rw [v1, v2, v3, v4, w1, w2, w3, w4]
    have := cross_lin (A := reR a) (B := reR b) (p0 := reR (m 0)) (p1 := reR (m 1)) (p2 := reR (m 2)) (p3 := reR (m 3)) (q0 := -imR (m 0)) (q1 := -imR (m 1)) (q2 := -imR (m 2)) (q3' := -imR (m 3)) (r0 := imR (n 0)) (r1 := imR (n 1)) (r2 := imR (n 2)) (r3 := imR (n 3)) (s0 := reR (n 0)) (s1 := reR (n 1)) (s2 := reR (n 2)) (s3 := reR (n 3))
      (by grind) (by grind) (by grind) (by grind)
    grind
  obtain ⟨t1, t2⟩ := cancel (d1 := (reR x - reR y) * reR s - (imR x - imR y) * imR s) (d2 := (reR x - reR y) * imR s + (imR x - imR y) * reR s) (s1 := reR s') (s2 := imR s')
    (turn_lin o1 o2 q1 q2 s1 s2 r1 r2 d1 d2 e1 e2 z1 z2).1 (turn_lin o1 o2 q1 q2 s1 s2 r1 r2 d1 d2 e1 e2 z1 z2).2 hn'
  obtain ⟨u1, u2⟩ := cancel t1 t2 hn
  exact val_inj (over_args h5).2.2.2 (over_args g5).2.2.2 (by grind) (by grind)
end Go.Sx

/- Matrices of rationals that lose nothing, light of four numbers, tables that make no more of it. No program in sight. -/
namespace Go.Sx
open Go
set_option linter.unusedVariables false
set_option linter.unusedSimpArgs false

def RM.p (m : RM) : Nat → Rat
  | 0 => m.p0
  | 1 => m.p1
  | 2 => m.p2
  | _ => m.p3
def RM.q (m : RM) : Nat → Rat
  | 0 => m.q0
  | 1 => m.q1
  | 2 => m.q2
  | _ => m.q3
def RM.adj (a : RM) : RM := ⟨a.p0, a.p2, a.p1, a.p3, -a.q0, -a.q2, -a.q1, -a.q3⟩
theorem RM.adj_mul (a b : RM) : (a.mul b).adj = b.adj.mul a.adj := by
  cases a; cases b
  apply RM.eq <;> simp only [RM.mul, RM.adj] <;> grind
theorem RM.adj_adj (a : RM) : a.adj.adj = a := by
  cases a
  apply RM.eq <;> simp only [RM.adj] <;> grind
/-- Nothing is lost. -/
def RM.U (m : RM) : Prop := m.mul m.adj = RM.one ∧ m.adj.mul m = RM.one
theorem RM.U_one : RM.one.U := by
  constructor <;> apply RM.eq <;> simp only [RM.mul, RM.adj, RM.one] <;> grind
theorem RM.U_mul {a b : RM} (ha : a.U) (hb : b.U) : (a.mul b).U := by
  constructor
  · rw [RM.adj_mul, RM.assoc, ← RM.assoc b, hb.1, RM.one_mul, ha.1]
  · rw [RM.adj_mul, RM.assoc, ← RM.assoc a.adj, ha.2, RM.one_mul, hb.2]
theorem RM.U_adj {a : RM} (h : a.U) : a.adj.U := ⟨by rw [RM.adj_adj]; exact h.2, by rw [RM.adj_adj]; exact h.1⟩
def rotM (c s : Rat) : RM := ⟨c, -s, s, c, 0, 0, 0, 0⟩
theorem rot_U {c s : Rat} (h : c * c + s * s = 1) : (rotM c s).U := by
  constructor <;> apply RM.eq <;> simp only [RM.mul, RM.adj, RM.one, rotM] <;> grind
theorem rot_back {c s : Rat} (h : c * c + s * s = 1) : (rotM c s).mul (rotM c (-s)) = RM.one ∧ (rotM c (-s)).mul (rotM c s) = RM.one := by
  constructor <;> apply RM.eq <;> simp only [RM.mul, RM.one, rotM] <;> grind
def diagM (x y : Rat) : RM := ⟨1, 0, 0, x, 0, 0, 0, y⟩
theorem diag_U {x y : Rat} (h : x * x + y * y = 1) : (diagM x y).U := by
  constructor <;> apply RM.eq <;> simp only [RM.mul, RM.adj, RM.one, diagM] <;> grind
def filM (c s : Rat) : RM := ⟨c * c, c * s, c * s, s * s, 0, 0, 0, 0⟩
def scaM (a : Rat) : RM := ⟨a, 0, 0, a, 0, 0, 0, 0⟩
/-! vectors -/
structure RV where
  a : Rat
  b : Rat
  c : Rat
  d : Rat
theorem RV.eq {x y : RV} (h0 : x.a = y.a) (h1 : x.b = y.b) (h2 : x.c = y.c) (h3 : x.d = y.d) : x = y := by
  cases x; cases y; simp_all
def RM.app (m : RM) (v : RV) : RV :=
  ⟨m.p0 * v.a - m.q0 * v.b + (m.p1 * v.c - m.q1 * v.d), m.p0 * v.b + m.q0 * v.a + (m.p1 * v.d + m.q1 * v.c),
   m.p2 * v.a - m.q2 * v.b + (m.p3 * v.c - m.q3 * v.d), m.p2 * v.b + m.q2 * v.a + (m.p3 * v.d + m.q3 * v.c)⟩
theorem RM.app_mul (m n : RM) (v : RV) : (m.mul n).app v = m.app (n.app v) := by
  cases m; cases n; cases v
  apply RV.eq <;> simp only [RM.mul, RM.app] <;> grind
theorem RM.app_one (v : RV) : RM.one.app v = v := by
  cases v
  apply RV.eq <;> simp only [RM.one, RM.app] <;> grind
def ofV (x y : Q) : RV := ⟨reR x, imR x, reR y, imR y⟩
def RV.sf (v : RV) : Nat → Rat := Go.Sx.sf v.a v.b v.c v.d
/-! four numbers, tables -/
def ta (t s : Nat → Rat) (r : Nat) : Rat := t (4 * r + 0) * s 0 + t (4 * r + 1) * s 1 + t (4 * r + 2) * s 2 + t (4 * r + 3) * s 3
def tmul (a b : Nat → Rat) (k : Nat) : Rat := a (4 * (k / 4) + 0) * b (4 * 0 + k % 4) + a (4 * (k / 4) + 1) * b (4 * 1 + k % 4) + a (4 * (k / 4) + 2) * b (4 * 2 + k % 4) + a (4 * (k / 4) + 3) * b (4 * 3 + k % 4)
theorem ta_congr {t t' s s' : Nat → Rat} (ht : ∀ k, k < 16 → t k = t' k) (hs : ∀ k, k < 4 → s k = s' k) : ∀ r, r < 4 → ta t s r = ta t' s' r := by
  intro r hr
  unfold ta
  rw [ht _ (by omega), ht _ (by omega), ht _ (by omega), ht _ (by omega), hs 0 (by omega), hs 1 (by omega), hs 2 (by omega), hs 3 (by omega)]
theorem ta_tmul (a b s : Nat → Rat) : ∀ r, r < 4 → ta (tmul a b) s r = ta a (ta b s) r := by
  refine get4 ?_ ?_ ?_ ?_ <;>
  · simp only [ta, tmul, Nat.reduceMul, Nat.reduceAdd, Nat.reduceDiv, Nat.reduceMod]
    grind
/-- What light is. -/
def Light (s : Nat → Rat) : Prop := 0 ≤ s 0 ∧ s 1 * s 1 + s 2 * s 2 + s 3 * s 3 ≤ s 0 * s 0
theorem light_congr {s s' : Nat → Rat} (h : ∀ k, k < 4 → s k = s' k) (hl : Light s) : Light s' := by
  unfold Light at *
  rw [← h 0 (by omega), ← h 1 (by omega), ← h 2 (by omega), ← h 3 (by omega)]
  exact hl
theorem light_sf (a b c d : Rat) : Light (sf a b c d) := by
  have h1 := sq_nn a
  have h2 := sq_nn b
  have h3 := sq_nn c
  have h4 := sq_nn d
  unfold Light
  simp only [sf]
  constructor <;> grind
/-- A form that is not less than nothing. -/
theorem form_nn {A B C D p0 q0 p1 q1 : Rat} (hA : 0 ≤ A) (hB : 0 ≤ B) (h : C * C + D * D ≤ A * B) :
    0 ≤ A * (p0 * p0 + q0 * q0) + B * (p1 * p1 + q1 * q1) + 2 * (C * (p0 * p1 + q0 * q1)) + 2 * (D * (p0 * q1 - q0 * p1)) := by
  have n1 := sq_nn p1
  have n2 := sq_nn q1
  by_cases hz : A = 0
  · subst hz
    have c1 := sq_nn C
    have d1 := sq_nn D
    have hC : C * C = 0 := by grind
    have hD : D * D = 0 := by grind
    have hC : C = 0 := by rcases Rat.mul_eq_zero.1 hC with h | h <;> exact h
    have hD : D = 0 := by rcases Rat.mul_eq_zero.1 hD with h | h <;> exact h
    have := Rat.mul_nonneg hB (show 0 ≤ p1 * p1 + q1 * q1 by grind)
    rw [hC, hD]
    grind
  · have hA' : 0 < A := by grind
    have s1 := sq_nn (A * p0 + C * p1 + D * q1)
    have s2 := sq_nn (A * q0 + C * q1 - D * p1)
    have s3 := Rat.mul_nonneg (show 0 ≤ A * B - (C * C + D * D) by grind) (show 0 ≤ p1 * p1 + q1 * q1 by grind)
    have e : A * (A * (p0 * p0 + q0 * q0) + B * (p1 * p1 + q1 * q1) + 2 * (C * (p0 * p1 + q0 * q1)) + 2 * (D * (p0 * q1 - q0 * p1))) =
      (A * p0 + C * p1 + D * q1) * (A * p0 + C * p1 + D * q1) + (A * q0 + C * q1 - D * p1) * (A * q0 + C * q1 - D * p1) + (A * B - (C * C + D * D)) * (p1 * p1 + q1 * q1) := by grind
    refine Rat.le_of_mul_le_mul_left (c := A) ?_ hA'
    rw [e, Rat.mul_zero]
    grind
/-- Light stays light. -/
theorem tf_light (p q : Nat → Rat) {s : Nat → Rat} (h : Light s) : Light (ta (tf p q) s) := by
  obtain ⟨h0, h1⟩ := h
  have hA : 0 ≤ s 0 + s 1 := by
    have n2 := sq_nn (s 2)
    have n3 := sq_nn (s 3)
    by_cases hh : 0 ≤ s 0 + s 1
    · exact hh
    · exfalso
      have : 0 < (-(s 0 + s 1)) * (s 0 - s 1) := Rat.mul_pos (by grind) (by grind)
      grind
  have hB : 0 ≤ s 0 - s 1 := by
    have n2 := sq_nn (s 2)
    have n3 := sq_nn (s 3)
    by_cases hh : 0 ≤ s 0 - s 1
    · exact hh
    · exfalso
      have : 0 < (-(s 0 - s 1)) * (s 0 + s 1) := Rat.mul_pos (by grind) (by grind)
      grind
  have hAB : s 2 * s 2 + s 3 * s 3 ≤ (s 0 + s 1) * (s 0 - s 1) := by grind
  have r0 := form_nn (p0 := p 0) (q0 := q 0) (p1 := p 1) (q1 := q 1) hA hB hAB
  have r1 := form_nn (p0 := p 2) (q0 := q 2) (p1 := p 3) (q1 := q 3) hA hB hAB
  constructor
  · simp only [ta, tf, tn, tr', ti, Nat.reduceMul, Nat.reduceAdd]
    grind
  · have d1 := sq_nn (dre p q)
    have d2 := sq_nn (dim p q)
    have hd := Rat.mul_nonneg (show 0 ≤ dre p q * dre p q + dim p q * dim p q by grind) (show 0 ≤ s 0 * s 0 - (s 1 * s 1 + s 2 * s 2 + s 3 * s 3) by grind)
    have e : ta (tf p q) s 0 * ta (tf p q) s 0 - (ta (tf p q) s 1 * ta (tf p q) s 1 + ta (tf p q) s 2 * ta (tf p q) s 2 + ta (tf p q) s 3 * ta (tf p q) s 3) =
      (dre p q * dre p q + dim p q * dim p q) * (s 0 * s 0 - (s 1 * s 1 + s 2 * s 2 + s 3 * s 3)) := by
      clear d1 d2 hd r0 r1 hA hB hAB h0 h1
      simp only [ta, tf, tn, tr', ti, dre, dim, Nat.reduceMul, Nat.reduceAdd]
      generalize p 0 = p0
      generalize p 1 = p1
      generalize p 2 = p2
      generalize p 3 = p3
      generalize q 0 = q0
      generalize q 1 = q1
      generalize q 2 = q2
      generalize q 3 = q3
      generalize s 0 = s0
      generalize s 1 = s1
      generalize s 2 = s2
      generalize s 3 = s3
      grind
    rw [← e] at hd
    grind
/-- A table that leaves light to be light, and not more of it. -/
def Good (t : Nat → Rat) : Prop := ∀ s, Light s → Light (ta t s) ∧ ta t s 0 ≤ s 0
theorem good_congr {t t' : Nat → Rat} (h : ∀ k, k < 16 → t k = t' k) (hg : Good t) : Good t' := by
  intro s hs
  obtain ⟨h1, h2⟩ := hg s hs
  have e := ta_congr (s := s) h (fun _ _ => rfl)
  exact ⟨light_congr e h1, by rw [← e 0 (by omega)]; exact h2⟩
theorem good_mul {a b : Nat → Rat} (ha : Good a) (hb : Good b) : Good (tmul a b) := by
  intro s hs
  obtain ⟨h1, h2⟩ := hb s hs
  obtain ⟨h3, h4⟩ := ha _ h1
  have e := ta_tmul a b s
  refine ⟨light_congr (fun k hk => (e k hk).symm) h3, ?_⟩
  rw [e 0 (by omega)]
  exact Rat.le_trans h4 h2
def unitT : Nat → Rat := fun k => if k % 5 = 0 then 1 else 0
theorem ta_unit (s : Nat → Rat) : ∀ r, r < 4 → ta unitT s r = s r := by
  refine get4 ?_ ?_ ?_ ?_ <;>
  · simp only [ta, unitT, Nat.reduceMul, Nat.reduceAdd, Nat.reduceMod, if_true, if_false, Nat.reduceEqDiff, reduceCtorEq, Nat.one_ne_zero]
    grind
theorem good_unit : Good unitT := fun s hs => ⟨light_congr (fun k hk => (ta_unit s k hk).symm) hs, by rw [ta_unit s 0 (by omega)]; exact Rat.le_refl⟩
def fadeT (c : Rat) : Nat → Rat := fun k => if k = 0 then 1 else if k % 5 = 0 then c else 0
theorem good_fade {c : Rat} (h0 : 0 ≤ c) (h1 : c ≤ 1) : Good (fadeT c) := by
  rintro s ⟨l0, l1⟩
  have e : ∀ r, r < 4 → ta (fadeT c) s r = if r = 0 then s 0 else c * s r := by
    refine get4 ?_ ?_ ?_ ?_ <;>
    · simp only [ta, fadeT, Nat.reduceMul, Nat.reduceAdd, Nat.reduceMod, if_true, if_false, Nat.reduceEqDiff, reduceCtorEq, Nat.one_ne_zero]
      grind
  have e0 : ta (fadeT c) s 0 = s 0 := (e 0 (by omega)).trans (if_pos rfl)
  have e1 : ta (fadeT c) s 1 = c * s 1 := (e 1 (by omega)).trans (if_neg (by omega))
  have e2 : ta (fadeT c) s 2 = c * s 2 := (e 2 (by omega)).trans (if_neg (by omega))
  have e3 : ta (fadeT c) s 3 = c * s 3 := (e 3 (by omega)).trans (if_neg (by omega))
  refine ⟨⟨by rw [e0]; exact l0, ?_⟩, by rw [e0]; exact Rat.le_refl⟩
  rw [e0, e1, e2, e3]
  have n1 := sq_nn (s 1)
  have n2 := sq_nn (s 2)
  have n3 := sq_nn (s 3)
  have hc : 0 ≤ 1 - c * c := by
    have := Rat.mul_nonneg (show 0 ≤ 1 - c by grind) (show 0 ≤ 1 + c by grind)
    grind
  have := Rat.mul_nonneg hc (show 0 ≤ s 1 * s 1 + s 2 * s 2 + s 3 * s 3 by grind)
  grind
/-- The table of a matrix. -/
def RM.tf (m : RM) : Nat → Rat := Go.Sx.tf m.p m.q
theorem tf_mul (a b : RM) : ∀ k, k < 16 → (a.mul b).tf k = tmul a.tf b.tf k := by
  intro k hk
  have h := tf_times a.p a.q b.p b.q k hk
  refine Eq.trans (tf_congr ?_ ?_ k hk) h
  · refine get4 ?_ ?_ ?_ ?_ <;> simp only [RM.mul, RM.p, RM.q, mp, Nat.reduceMul, Nat.reduceDiv, Nat.reduceMod, Nat.reduceAdd]
  · refine get4 ?_ ?_ ?_ ?_ <;> simp only [RM.mul, RM.p, RM.q, mq, Nat.reduceMul, Nat.reduceDiv, Nat.reduceMod, Nat.reduceAdd] <;> grind
theorem tf_one : ∀ k, k < 16 → RM.one.tf k = unitT k := by
  refine get16 ?_ ?_ ?_ ?_ ?_ ?_ ?_ ?_ ?_ ?_ ?_ ?_ ?_ ?_ ?_ ?_ <;> decide +kernel
theorem sf_app (m : RM) (v : RV) : ∀ r, r < 4 → (m.app v).sf r = ta m.tf v.sf r := by
  intro r hr
  exact tf_apply m.p m.q v.a v.b v.c v.d r hr
theorem good_of {m : RM} (h : ∀ s, Light s → ta m.tf s 0 ≤ s 0) : Good m.tf := fun s hs => ⟨tf_light _ _ hs, h s hs⟩
theorem good_U {m : RM} (h : m.U) : Good m.tf := by
  refine good_of fun s hs => ?_
  have h2 := h.2
  cases m
  simp only [RM.mul, RM.adj, RM.one, RM.mk.injEq] at h2
  obtain ⟨e0, e1, e2, e3, f0, f1, f2, f3⟩ := h2
  simp only [ta, RM.tf, tf, tn, tr', ti, RM.p, RM.q, Nat.reduceMul, Nat.reduceAdd]
  have a0 : ∀ {x y : Rat}, x = y → x ≤ y := fun h => by rw [h]; exact Rat.le_refl
  refine a0 ?_
  grind
theorem good_sca {a : Rat} (h0 : 0 ≤ a) (h1 : a ≤ 1) : Good (scaM a).tf := by
  refine good_of fun s hs => ?_
  obtain ⟨l0, _⟩ := hs
  have hc : 0 ≤ 1 - a * a := by
    have := Rat.mul_nonneg (show 0 ≤ 1 - a by grind) (show 0 ≤ 1 + a by grind)
    grind
  have := Rat.mul_nonneg hc l0
  simp only [ta, RM.tf, tf, tn, tr', ti, RM.p, RM.q, scaM, Nat.reduceMul, Nat.reduceAdd]
  grind
theorem le_of_sq {x y : Rat} (hy : 0 ≤ y) (h : x * x ≤ y * y) : x ≤ y := by
  by_cases hx : x ≤ y
  · exact hx
  · exfalso
    have : 0 < (x - y) * (x + y) := Rat.mul_pos (by grind) (by grind)
    grind
theorem good_fil {c s : Rat} (h : c * c + s * s = 1) : Good (filM c s).tf := by
  refine good_of fun u hu => ?_
  obtain ⟨l0, l1⟩ := hu
  have n3 := sq_nn (u 3)
  have key : (c * c - s * s) * u 1 + (2 * (c * s)) * u 2 ≤ u 0 := by
    refine le_of_sq l0 ?_
    have n := sq_nn ((c * c - s * s) * u 2 - (2 * (c * s)) * u 1)
    have e : (c * c - s * s) * (c * c - s * s) + (2 * (c * s)) * (2 * (c * s)) = 1 := by
      have : (c * c - s * s) * (c * c - s * s) + (2 * (c * s)) * (2 * (c * s)) = (c * c + s * s) * (c * c + s * s) := by grind
      rw [this, h]; grind
    generalize c * c - s * s = a at *
    generalize 2 * (c * s) = b at *
    have : (a * u 1 + b * u 2) * (a * u 1 + b * u 2) + (a * u 2 - b * u 1) * (a * u 2 - b * u 1) = (a * a + b * b) * (u 1 * u 1 + u 2 * u 2) := by grind
    rw [e] at this
    grind
  have e : ta (filM c s).tf u 0 = (u 0 + ((c * c - s * s) * u 1 + (2 * (c * s)) * u 2)) / 2 := by
    simp only [ta, RM.tf, tf, tn, tr', ti, RM.p, RM.q, filM, Nat.reduceMul, Nat.reduceAdd]
    have e4 : c * c * (c * c) + 2 * (c * c * (s * s)) + s * s * (s * s) = 1 := by
      have : c * c * (c * c) + 2 * (c * c * (s * s)) + s * s * (s * s) = (c * c + s * s) * (c * c + s * s) := by grind
      rw [this, h]; grind
    have e5 : c * c * (c * c) - s * s * (s * s) = c * c - s * s := by
      have : c * c * (c * c) - s * s * (s * s) = (c * c + s * s) * (c * c - s * s) := by grind
      rw [this, h]; grind
    have e6 : c * c * (c * s) + c * s * (s * s) = c * s := by
      have : c * c * (c * s) + c * s * (s * s) = (c * c + s * s) * (c * s) := by grind
      rw [this, h]; grind
    have x1 : (c * c * (c * c) + 0 * 0 + 1 * (c * s * (c * s) + 0 * 0) + 1 * (c * s * (c * s) + 0 * 0) + 1 * (s * s * (s * s) + 0 * 0)) / 2 = 1 / 2 := by grind
    have x2 : (c * c * (c * c) + 0 * 0 + -1 * (c * s * (c * s) + 0 * 0) + 1 * (c * s * (c * s) + 0 * 0) + -1 * (s * s * (s * s) + 0 * 0)) / 2 = (c * c - s * s) / 2 := by grind
    have x3 : c * c * (c * s) + 0 * 0 + 1 * (c * s * (s * s) + 0 * 0) = c * s := by grind
    rw [x1, x2, x3]
    grind
  rw [e]
  grind
/-- What six kinds of light are made of. -/
theorem good_kind {t : Nat → Rat} (h : Good t) {i : Nat} (h1 : 1 ≤ i) (h3 : i ≤ 3) {e : Rat} (he : e * e = 1) : 0 ≤ t 0 + e * t i ∧ t 0 + e * t i ≤ 1 := by
  have hl : Light (fun j => if j = 0 then 1 else if j = i then e else 0) := by
    unfold Light
    rcases (by omega : i = 1 ∨ i = 2 ∨ i = 3) with rfl | rfl | rfl <;> simp <;> grind
  obtain ⟨⟨g1, _⟩, g2⟩ := h _ hl
  have e0 : ta t (fun j => if j = 0 then 1 else if j = i then e else 0) 0 = t 0 + e * t i := by
    unfold ta
    rcases (by omega : i = 1 ∨ i = 2 ∨ i = 3) with rfl | rfl | rfl <;> simp <;> grind
  rw [e0] at g1 g2
  exact ⟨g1, by simpa using g2⟩
end Go.Sx


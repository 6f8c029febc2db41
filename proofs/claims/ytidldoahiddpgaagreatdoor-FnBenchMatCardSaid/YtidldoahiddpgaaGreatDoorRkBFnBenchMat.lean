import Derived.Test.YtidldoahiddpgaaGreatDoorRkAFnBenchMat
import Derived.KernelRfl
namespace Go.Sx
open Go
set_option maxRecDepth 100000
set_option linter.unusedSimpArgs false
set_option linter.unusedVariables false
def prodP : List Pc → RM
  | [] => RM.one
  | p :: r => (prodP r).mul (pm p)
theorem stepM_val {p : Pc} {g : Nat → Int} {o : List Value} (h : stepM p (ivs g 0 12) = some o) : ∃ g', o = ivs g' 0 12 ∧ b0 (pieceM p.k p.ns) 12 = true ∧ matL (ivs g' 0 12) = (pm p).mul (matL (ivs g 0 12)) ∧ okL (ivs g' 0 12) := by
  obtain ⟨f, b, e⟩ := pieceM_lit p.k p.ns
  rw [stepM_lit e] at h
  split at h
  · rename_i hc
    rw [Bool.and_eq_true] at hc
    obtain ⟨rfl, hT⟩ := hc
    obtain ⟨v1, v2⟩ := mul_valL hT
    refine ⟨_, (Option.some.inj h).symm, by rw [e]; rfl, ?_, v2⟩
    rw [v1]
    unfold pm
    rw [e]
    rfl
  · cases h
theorem benchM_val : ∀ {l : List Pc} {g : Nat → Int} {o : List Value}, okL (ivs g 0 12) → benchM (some (ivs g 0 12)) l = some o →
    ∃ g', o = ivs g' 0 12 ∧ matL (ivs g' 0 12) = (prodP l).mul (matL (ivs g 0 12)) ∧ okL (ivs g' 0 12) ∧ ∀ p ∈ l, b0 (pieceM p.k p.ns) 12 = true
  | [], g, o, hg, h => ⟨g, (Option.some.inj h).symm, (RM.one_mul _).symm, hg, fun p hp => by cases hp⟩
  | p :: r, g, o, hg, h => by
    have h : benchM (stepM p (ivs g 0 12)) r = some o := h
    cases hs : stepM p (ivs g 0 12) with
    | none => rw [hs, benchM_none] at h; cases h
    | some a =>
      rw [hs] at h
      obtain ⟨g1, rfl, b1, m1, k1⟩ := stepM_val hs
      obtain ⟨g2, rfl, m2, k2, b2⟩ := benchM_val k1 h
      refine ⟨g2, rfl, ?_, k2, fun q hq => ?_⟩
      · rw [m2, m1, prodP, RM.assoc]
      · rcases List.mem_cons.1 hq with rfl | hq
        · exact b1
        · exact b2 q hq
theorem low_some {a c : Int} (ha : -20000 ≤ a ∧ a ≤ 20000) (hc : 1 ≤ c ∧ c ≤ 20000) : ∃ v, lowI a 0 c = some v := by
  have hd : ∀ x g : Int, (x.tdiv g).natAbs ≤ x.natAbs := fun x g => by rw [Int.natAbs_tdiv]; exact Nat.div_le_self _ _
  unfold lowI
  simp only
  have h1 := hd a (gcd3 a 0 c)
  have h2 := hd 0 (gcd3 a 0 c)
  have h3 := hd c (gcd3 a 0 c)
  rw [if_pos]
  · exact ⟨_, rfl⟩
  · simp only [inR, Bool.and_eq_true, decide_eq_true_eq]
    omega
theorem dir_val {p q : Int} (h : dirOk p q = true) : ∃ C S : Q, dirC p q = some C ∧ dirS p q = some S ∧ validQ C = true ∧ validQ S = true ∧ C.2.1 = 0 ∧ S.2.1 = 0 ∧
    reR C = ((p * p - q * q : Int) : Rat) / ((p * p + q * q : Int) : Rat) ∧ reR S = ((2 * p * q : Int) : Rat) / ((p * p + q * q : Int) : Rat) ∧ reR C * reR C + reR S * reR S = 1 := by
  obtain ⟨l1, l2, _, _, _, _, _, _, f1, f2, f3, f4, f5, f6⟩ := dir_facts h
  obtain ⟨C, hC⟩ := low_some (a := p * p - q * q) (c := p * p + q * q) (by omega) ⟨f1, f2⟩
  obtain ⟨S, hS⟩ := low_some (a := 2 * p * q) (c := p * p + q * q) ⟨f5, f6⟩ ⟨f1, f2⟩
  obtain ⟨c1, c2⟩ := low_val f1 hC
  obtain ⟨s1, s2⟩ := low_val f1 hS
  refine ⟨C, S, by unfold dirC; rw [if_pos h]; exact hC, by unfold dirS; rw [if_pos h]; exact hS, low_valid l1 hC, low_valid l2 hS, low_real hC, low_real hS, c1, s1, ?_⟩
  have hn : ((p * p + q * q : Int) : Rat) ≠ 0 := by
    have : p * p + q * q ≠ 0 := by omega
    exact_mod_cast this
  rw [c1, s1]
  simp only [Rat.intCast_mul, Rat.intCast_sub, Rat.intCast_add] at hn ⊢
  have h2 : ((2 : Int) : Rat) = 2 := rfl
  rw [h2]
  generalize (p : Rat) = x at *
  generalize (q : Rat) = y at *
  grind
def dcR (p q : Int) : Rat := reR ((dirC p q).getD zq)
def dsR (p q : Int) : Rat := reR ((dirS p q).getD zq)
theorem cs_one {p q : Int} (h : dirOk p q = true) : dcR p q * dcR p q + dsR p q * dsR p q = 1 := by
  obtain ⟨C, S, hC, hS, _, _, _, _, _, _, h1⟩ := dir_val h
  unfold dcR dsR
  rw [hC, hS]
  exact h1
theorem neg_valid {S : Q} (h : validQ S = true) : validQ (-S.1, S.2.1, S.2.2) = true := by
  obtain ⟨b1, b2, b3⟩ := valid_bounds h
  simp only [validQ, validI, Bool.and_eq_true, beq_iff_eq] at h ⊢
  refine ⟨?_, h.2.1, h.2.2.1, ?_⟩
  · simp only [inR, Bool.and_eq_true, decide_eq_true_eq]; omega
  · have := h.2.2.2
    unfold gcd3 at this ⊢
    rw [Int.natAbs_neg]
    exact this
theorem rot_val {p q : Int} (h : dirOk p q = true) : matL (ivs (rotH p q) 0 12) = rotM (dcR p q) (dsR p q) ∧ okL (ivs (rotH p q) 0 12) := by
  obtain ⟨C, S, hC, hS, vC, vS, iC, iS, _⟩ := dir_val h
  have e0 : q3 (ivs (rotH p q) 0 12) (3 * 0) = C := by
    show (rotH p q 0, rotH p q 1, rotH p q 2) = _
    unfold rotH
    rw [if_pos h, if_pos h, if_pos h, hC]; rfl
  have e1 : q3 (ivs (rotH p q) 0 12) (3 * 1) = (-S.1, S.2.1, S.2.2) := by
    show (rotH p q 3, rotH p q 4, rotH p q 5) = _
    unfold rotH
    rw [if_pos h, if_pos h, if_pos h, hS, iS]; rfl
  have e2 : q3 (ivs (rotH p q) 0 12) (3 * 2) = S := by
    show (rotH p q 6, rotH p q 7, rotH p q 8) = _
    unfold rotH
    rw [if_pos h, if_pos h, if_pos h, hS]; rfl
  have e3 : q3 (ivs (rotH p q) 0 12) (3 * 3) = C := by
    show (rotH p q 9, rotH p q 10, rotH p q 11) = _
    unfold rotH
    rw [if_pos h, if_pos h, if_pos h, hC]; rfl
  refine ⟨?_, get4 (by rw [e0]; exact vC) (by rw [e1]; exact neg_valid vS) (by rw [e2]; exact vS) (by rw [e3]; exact vC)⟩
  unfold matL ofQ
  simp only
  rw [e0, e1, e2, e3]
  have x1 : dcR p q = reR C := by unfold dcR; rw [hC]; rfl
  have x2 : dsR p q = reR S := by unfold dsR; rw [hS]; rfl
  have x3 : reR (-S.1, S.2.1, S.2.2) = - reR S := by unfold reR; rw [Rat.intCast_neg]; grind
  have x4 : imR (-S.1, S.2.1, S.2.2) = 0 := real_val iS
  rw [x1, x2, x3, x4, real_val iC, real_val iS]
  rfl
def adjN (g : Nat → Int) : Nat → Int := adjG (mirQ (q3 (ivs g 0 12) 0)) (mirQ (q3 (ivs g 0 12) 6)) (mirQ (q3 (ivs g 0 12) 3)) (mirQ (q3 (ivs g 0 12) 9))
theorem adj_val {g : Nat → Int} (hg : okL (ivs g 0 12)) : matL (ivs (adjN g) 0 12) = (matL (ivs g 0 12)).adj ∧ okL (ivs (adjN g) 0 12) := by
  have m : ∀ {v : Q}, validQ v = true → mirQ v = some (v.1, -v.2.1, v.2.2) := fun h => by unfold mirQ; rw [if_pos h]
  have h0 := m (hg 0 (by omega))
  have h1 := m (hg 1 (by omega))
  have h2 := m (hg 2 (by omega))
  have h3 := m (hg 3 (by omega))
  have k0 : mirQ (q3 (ivs g 0 12) 0) = _ := h0
  have k1 : mirQ (q3 (ivs g 0 12) 3) = _ := h1
  have k2 : mirQ (q3 (ivs g 0 12) 6) = _ := h2
  have k3 : mirQ (q3 (ivs g 0 12) 9) = _ := h3
  have e : ∀ i, i < 12 → adjN g i = if i = 0 then g 0 else if i = 1 then -g 1 else if i = 2 then g 2 else if i = 3 then g 6 else if i = 4 then -g 7 else if i = 5 then g 8 else if i = 6 then g 3 else if i = 7 then -g 4 else if i = 8 then g 5 else if i = 9 then g 9 else if i = 10 then -g 10 else g 11 := by
    intro i _
    unfold adjN adjG
    rw [k0, k1, k2, k3]
    rfl
  have e0 : q3 (ivs (adjN g) 0 12) (3 * 0) = (g 0, -g 1, g 2) := by
    show (adjN g 0, adjN g 1, adjN g 2) = _
    rw [e 0 (by omega), e 1 (by omega), e 2 (by omega)]; rfl
  have e1 : q3 (ivs (adjN g) 0 12) (3 * 1) = (g 6, -g 7, g 8) := by
    show (adjN g 3, adjN g 4, adjN g 5) = _
    rw [e 3 (by omega), e 4 (by omega), e 5 (by omega)]; rfl
  have e2 : q3 (ivs (adjN g) 0 12) (3 * 2) = (g 3, -g 4, g 5) := by
    show (adjN g 6, adjN g 7, adjN g 8) = _
    rw [e 6 (by omega), e 7 (by omega), e 8 (by omega)]; rfl
  have e3 : q3 (ivs (adjN g) 0 12) (3 * 3) = (g 9, -g 10, g 11) := by
    show (adjN g 9, adjN g 10, adjN g 11) = _
    rw [e 9 (by omega), e 10 (by omega), e 11 (by omega)]; rfl
  refine ⟨?_, get4 (by rw [e0]; exact mir_valid (hg 0 (by omega))) (by rw [e1]; exact mir_valid (hg 2 (by omega))) (by rw [e2]; exact mir_valid (hg 1 (by omega))) (by rw [e3]; exact mir_valid (hg 3 (by omega)))⟩
  have rr : ∀ a b c : Int, reR (a, -b, c) = reR (a, b, c) := fun a b c => rfl
  have ii : ∀ a b c : Int, imR (a, -b, c) = - imR (a, b, c) := fun a b c => by unfold imR; rw [Rat.intCast_neg]; grind
  unfold matL ofQ
  simp only
  rw [e0, e1, e2, e3, rr, rr, rr, rr, ii, ii, ii, ii]
  rfl
def diagN (k : Int) (i : Nat) : Int := if i = 0 then 1 else if i = 2 then 1 else if i = 5 then 1 else if i = 8 then 1 else if i = 9 then (if k = 0 then 1 else if k = 2 then -1 else 0) else if i = 10 then (if k = 1 then 1 else if k = 3 then -1 else 0) else if i = 11 then 1 else 0
theorem diag_val {k : Int} (h0 : 0 ≤ k) (h3 : k ≤ 3) : diagW k = ivs (diagN k) 0 12 ∧ (matL (ivs (diagN k) 0 12)).U ∧ okL (ivs (diagN k) 0 12) := by
  have r0 : reR (0, 0, 1) = 0 := by decide +kernel
  have r1 : reR (1, 0, 1) = 1 := by decide +kernel
  have rm : reR (-1, 0, 1) = -1 := by decide +kernel
  have s0 : reR (0, 1, 1) = 0 := by decide +kernel
  have s1 : reR (0, -1, 1) = 0 := by decide +kernel
  have i0 : imR (0, 0, 1) = 0 := by decide +kernel
  have i1 : imR (1, 0, 1) = 0 := by decide +kernel
  have im : imR (-1, 0, 1) = 0 := by decide +kernel
  have j0 : imR (0, 1, 1) = 1 := by decide +kernel
  have j1 : imR (0, -1, 1) = -1 := by decide +kernel
  rcases (by omega : k = 0 ∨ k = 1 ∨ k = 2 ∨ k = 3) with rfl | rfl | rfl | rfl
  · refine ⟨rfl, ?_, get4 (by decide) (by decide) (by decide) (by decide)⟩
    have : matL (ivs (diagN 0) 0 12) = diagM 1 0 := by
      show (⟨reR (1, 0, 1), reR (0, 0, 1), reR (0, 0, 1), reR (1, 0, 1), imR (1, 0, 1), imR (0, 0, 1), imR (0, 0, 1), imR (1, 0, 1)⟩ : RM) = _
      rw [r0, r1, i0, i1]; rfl
    rw [this]
    exact diag_U (by grind)
  · refine ⟨rfl, ?_, get4 (by decide) (by decide) (by decide) (by decide)⟩
    have : matL (ivs (diagN 1) 0 12) = diagM 0 1 := by
      show (⟨reR (1, 0, 1), reR (0, 0, 1), reR (0, 0, 1), reR (0, 1, 1), imR (1, 0, 1), imR (0, 0, 1), imR (0, 0, 1), imR (0, 1, 1)⟩ : RM) = _
      rw [r0, r1, i0, i1, s0, j0]; rfl
    rw [this]
    exact diag_U (by grind)
  · refine ⟨rfl, ?_, get4 (by decide) (by decide) (by decide) (by decide)⟩
    have : matL (ivs (diagN 2) 0 12) = diagM (-1) 0 := by
      show (⟨reR (1, 0, 1), reR (0, 0, 1), reR (0, 0, 1), reR (-1, 0, 1), imR (1, 0, 1), imR (0, 0, 1), imR (0, 0, 1), imR (-1, 0, 1)⟩ : RM) = _
      rw [r0, r1, i0, i1, rm, im]; rfl
    rw [this]
    exact diag_U (by grind)
  · refine ⟨rfl, ?_, get4 (by decide) (by decide) (by decide) (by decide)⟩
    have : matL (ivs (diagN 3) 0 12) = diagM 0 (-1) := by
      show (⟨reR (1, 0, 1), reR (0, 0, 1), reR (0, 0, 1), reR (0, -1, 1), imR (1, 0, 1), imR (0, 0, 1), imR (0, 0, 1), imR (0, -1, 1)⟩ : RM) = _
      rw [r0, r1, i0, i1, s1, j1]; rfl
    rw [this]
    exact diag_U (by grind)
theorem plate_val {p q k : Int} (hb : b0 (plateV p q k) 12 = true) : (matL (plateV p q k)).U ∧ okL (plateV p q k) := by
  unfold plateV at hb ⊢
  split at hb
  · rename_i hc
    simp only [Bool.and_eq_true, inRg, decide_eq_true_eq] at hc
    obtain ⟨hd, ⟨k0, k3⟩, hA, hM⟩ := hc
    obtain ⟨d1, d2, d3⟩ := diag_val k0 k3
    obtain ⟨r1, r2⟩ := rot_val hd
    obtain ⟨a1, a2⟩ := adj_val r2
    have eA : plA (rotH p q) k = ivs (mulN (rotH p q) (diagN k)) 0 12 ++ [.bool (mulT (rotH p q) (diagN k))] := by
      unfold plA
      rw [d1]
      rfl
    have eM : plM (rotH p q) k = ivs (mulN (mulN (rotH p q) (diagN k)) (adjN (rotH p q))) 0 12 ++ [.bool (mulT (mulN (rotH p q) (diagN k)) (adjN (rotH p q)))] := by
      unfold plM
      rw [eA]
      rfl
    rw [eA] at hA
    rw [eM] at hM
    have hA : mulT (rotH p q) (diagN k) = true := hA
    have hM : mulT (mulN (rotH p q) (diagN k)) (adjN (rotH p q)) = true := hM
    obtain ⟨v1, _⟩ := mul_valL hA
    obtain ⟨v2, v3⟩ := mul_valL hM
    rw [if_pos (by simp only [Bool.and_eq_true, inRg, decide_eq_true_eq]; exact ⟨hd, ⟨k0, k3⟩, by rw [eA]; exact hA, by rw [eM]; exact hM⟩), eM]
    refine ⟨?_, get4 (v3 0 (by omega)) (v3 1 (by omega)) (v3 2 (by omega)) (v3 3 (by omega))⟩
    show (matL (ivs (mulN (mulN (rotH p q) (diagN k)) (adjN (rotH p q))) 0 12)).U
    rw [v2, v1, a1, r1]
    have hr := rot_U (cs_one hd)
    exact RM.U_mul (RM.U_mul hr d2) (RM.U_adj hr)
  · cases hb
theorem filt_val {p q : Int} (hb : b0 (filtW p q) 12 = true) : dirOk p q = true ∧ matL (filtW p q) = filM (dcR p q) (dsR p q) ∧ okL (filtW p q) := by
  have hc : (dirOk p q && ((timesQ ((dirC p q).getD zq) ((dirC p q).getD zq)).isSome && ((timesQ ((dirC p q).getD zq) ((dirS p q).getD zq)).isSome && (timesQ ((dirS p q).getD zq) ((dirS p q).getD zq)).isSome))) = true := hb
  have hc' := hc
  simp only [Bool.and_eq_true] at hc
  obtain ⟨hd, h1, h2, h3⟩ := hc
  obtain ⟨C, S, hC, hS, vC, vS, iC, iS, _⟩ := dir_val hd
  obtain ⟨a, ha⟩ := Option.isSome_iff_exists.1 h1
  obtain ⟨b, hb⟩ := Option.isSome_iff_exists.1 h2
  obtain ⟨d, hd'⟩ := Option.isSome_iff_exists.1 h3
  have e : ∀ i, i < 12 → filtG (dirOk p q) (timesQ ((dirC p q).getD zq) ((dirC p q).getD zq)) (timesQ ((dirC p q).getD zq) ((dirS p q).getD zq)) (timesQ ((dirS p q).getD zq) ((dirS p q).getD zq)) i =
      if i = 0 then a.1 else if i = 1 then a.2.1 else if i = 2 then a.2.2 else if i = 3 then b.1 else if i = 4 then b.2.1 else if i = 5 then b.2.2 else if i = 6 then b.1 else if i = 7 then b.2.1 else if i = 8 then b.2.2 else if i = 9 then d.1 else if i = 10 then d.2.1 else d.2.2 := by
    intro i _
    unfold filtG
    rw [if_pos hc', ha, hb, hd']
    rfl
  have e0 : q3 (filtW p q) (3 * 0) = a := by
    show (filtG _ _ _ _ 0, filtG _ _ _ _ 1, filtG _ _ _ _ 2) = _
    rw [e 0 (by omega), e 1 (by omega), e 2 (by omega)]; rfl
  have e1 : q3 (filtW p q) (3 * 1) = b := by
    show (filtG _ _ _ _ 3, filtG _ _ _ _ 4, filtG _ _ _ _ 5) = _
    rw [e 3 (by omega), e 4 (by omega), e 5 (by omega)]; rfl
  have e2 : q3 (filtW p q) (3 * 2) = b := by
    show (filtG _ _ _ _ 6, filtG _ _ _ _ 7, filtG _ _ _ _ 8) = _
    rw [e 6 (by omega), e 7 (by omega), e 8 (by omega)]; rfl
  have e3 : q3 (filtW p q) (3 * 3) = d := by
    show (filtG _ _ _ _ 9, filtG _ _ _ _ 10, filtG _ _ _ _ 11) = _
    rw [e 9 (by omega), e 10 (by omega), e 11 (by omega)]; rfl
  have x1 : dcR p q = reR C := by unfold dcR; rw [hC]; rfl
  have x2 : dsR p q = reR S := by unfold dsR; rw [hS]; rfl
  rw [hC] at ha hb
  rw [hS] at hb hd'
  have ha : timesQ C C = some a := ha
  have hb : timesQ C S = some b := hb
  have hd' : timesQ S S = some d := hd'
  obtain ⟨a1, a2⟩ := times_val ha
  obtain ⟨b1, b2⟩ := times_val hb
  obtain ⟨d1, d2⟩ := times_val hd'
  have zC := real_val iC
  have zS := real_val iS
  refine ⟨hd, ?_, get4 (by rw [e0]; exact times_valid ha) (by rw [e1]; exact times_valid hb) (by rw [e2]; exact times_valid hb) (by rw [e3]; exact times_valid hd')⟩
  unfold matL ofQ
  simp only
  rw [e0, e1, e2, e3, x1, x2]
  apply RM.eq <;> simp only [filM, a1, a2, b1, b2, d1, d2, zC, zS] <;> grind
theorem share_val {n d : Int} (h : partOk n d) : ∃ v, shareQ [n, d] = some v ∧ validQ v = true ∧ v.2.1 = 0 ∧ 0 ≤ reR v ∧ reR v ≤ 1 := by
  obtain ⟨h0, h1, h2, h3⟩ := h
  obtain ⟨v, hv⟩ := low_some (a := n) (c := d) (by omega) (by omega)
  obtain ⟨v1, v2⟩ := low_val h2 hv
  have hp : (0 : Rat) < (d : Rat) := by
    have : (0 : Int) < d := by omega
    exact_mod_cast this
  refine ⟨v, hv, low_valid (by unfold lowOk; omega) hv, low_real hv, ?_, ?_⟩
  · have : ¬ reR v < 0 := fun hh => by
      rw [v1, Rat.div_lt_iff hp, Rat.zero_mul] at hh
      have : n < 0 := by exact_mod_cast hh
      omega
    grind
  · have : ¬ 1 < reR v := fun hh => by
      rw [v1, Rat.lt_div_iff hp, Rat.one_mul, Rat.intCast_lt_intCast] at hh
      omega
    grind
theorem scal_val {n d : Int} (h : partOk n d) : ∃ a, 0 ≤ a ∧ a ≤ 1 ∧ matL (scalW (shareQ [n, d])) = scaM a ∧ okL (scalW (shareQ [n, d])) := by
  obtain ⟨v, e, hv, hi, h0, h1⟩ := share_val h
  refine ⟨reR v, h0, h1, ?_, ?_⟩
  · rw [e]
    show (⟨reR v, reR (0, 0, 1), reR (0, 0, 1), reR v, imR v, imR (0, 0, 1), imR (0, 0, 1), imR v⟩ : RM) = _
    rw [show reR (0, 0, 1) = 0 by decide +kernel, show imR (0, 0, 1) = 0 by decide +kernel, real_val hi]
    rfl
  · rw [e]
    exact get4 hv (show validQ (0, 0, 1) = true by decide) (show validQ (0, 0, 1) = true by decide) hv
theorem piece_kinds {k : UInt8} {ns : List Int} (ho : okPiece k ns = true) (hb : b0 (pieceM k ns) 12 = true) :
    okL (pieceM k ns) ∧ k ≠ 100 ∧ (((matL (pieceM k ns)).U) ∨ (k = 102 ∧ ∃ c s, c * c + s * s = 1 ∧ matL (pieceM k ns) = filM c s) ∨ (k = 97 ∧ ∃ a, 0 ≤ a ∧ a ≤ 1 ∧ matL (pieceM k ns) = scaM a)) := by
  rcases k_cases k with rfl | rfl | rfl | rfl | rfl | ⟨h1, h2, h3, h4, h5⟩
  · obtain ⟨p, q, rfl⟩ := ok_two (.inl rfl) ho
    have hb : dirOk p q = true := hb
    obtain ⟨r1, r2⟩ := rot_val hb
    refine ⟨get4 (r2 0 (by omega)) (r2 1 (by omega)) (r2 2 (by omega)) (r2 3 (by omega)), by decide, .inl ?_⟩
    show (matL (ivs (rotH p q) 0 12)).U
    rw [r1]
    exact rot_U (cs_one hb)
  · obtain ⟨p, q, rfl⟩ := ok_two (.inr (.inl rfl)) ho
    have hb : b0 (filtW p q) 12 = true := hb
    obtain ⟨hd, f1, f2⟩ := filt_val hb
    exact ⟨f2, by decide, .inr (.inl ⟨rfl, _, _, cs_one hd, f1⟩)⟩
  · obtain ⟨p, q, r, rfl⟩ := ok_three ho
    have hb : b0 (plateV p q r) 12 = true := hb
    obtain ⟨p1, p2⟩ := plate_val hb
    exact ⟨p2, by decide, .inl p1⟩
  · obtain ⟨p, q, rfl⟩ := ok_two (.inr (.inr (.inl rfl))) ho
    obtain ⟨a, a0, a1, a2, a3⟩ := scal_val (ok_part (.inl rfl) ho)
    exact ⟨a3, by decide, .inr (.inr ⟨rfl, a, a0, a1, a2⟩)⟩
  · cases hb
  · rw [ok_other h1 h2 h3 h4 h5] at ho; cases ho
theorem prod_U : ∀ {l : List Pc}, (∀ p ∈ l, (pm p).U) → (prodP l).U
  | [], _ => RM.U_one
  | p :: r, h => RM.U_mul (prod_U fun q hq => h q (List.mem_cons_of_mem _ hq)) (h p List.mem_cons_self)
def lossW (g : Nat → Int) : Value := if toB (.bool (mulT g (adjN g))) = true then eqL (mulN g (adjN g)) oneG 0 12 else .bool false
def G_iMatLossless : Fun1 := ⟨fun _ => True, fun ins => [lossW (i0 ins)]⟩
theorem out_iMatLossless : (fun (g : Nat → Int) => F_iMatLossless.out (ivs g 0 12)) = fun g => [lossW (i0 (ivs g 0 12))] := by kernel_rfl
theorem as_iMatLossless (ins : List Value) (ht : TypedL (intTs 12 ++ []) ins) (_ : G_iMatLossless.pre ins) : F_iMatLossless.pre ins ∧ F_iMatLossless.out ins = G_iMatLossless.out ins := by
  obtain ⟨g, r, rfl, h1, _⟩ := ints_lit 12 0 ht
  obtain rfl := ints0 h1
  rw [List.append_nil]
  exact ⟨okT_free (by intro F hF ins; simp only [Fs_iMatLossless, List.mem_cons, List.not_mem_nil, or_false] at hF; rcases hF with rfl | rfl <;> trivial) _ _ (by kernel_rfl), congrFun out_iMatLossless g⟩
def tr_FnBenchMat : Tr :=
  (.ite (.cmp .gtr (.len (.var 0)) (.int .i64 1048576))
  (.ret [(.bool true)])
  (.evs [.call 0 [(.var 0)] none 1]
   (.evs [.call 1 [(.var 1)] none 13]
   (.evs [.call 2 [(.var 1)] none 13]
   (.ite (.ite (.ite (.not (.eqb (.var 14) (.var 27))) (.bool true) (.not (.ite (.cmp .eql (.var 2) (.var 15)) (.ite (.cmp .eql (.var 3) (.var 16)) (.ite (.cmp .eql (.var 4) (.var 17)) (.ite (.cmp .eql (.var 5) (.var 18)) (.ite (.cmp .eql (.var 6) (.var 19)) (.ite (.cmp .eql (.var 7) (.var 20)) (.ite (.cmp .eql (.var 8) (.var 21)) (.ite (.cmp .eql (.var 9) (.var 22)) (.ite (.cmp .eql (.var 10) (.var 23)) (.ite (.cmp .eql (.var 11) (.var 24)) (.ite (.cmp .eql (.var 12) (.var 25)) (.cmp .eql (.var 13) (.var 26)) (.bool false)) (.bool false)) (.bool false)) (.bool false)) (.bool false)) (.bool false)) (.bool false)) (.bool false)) (.bool false)) (.bool false)) (.bool false)))) (.bool true) (.not (.var 14)))
   (.ret [(.ite (.eqb (.var 14) (.var 27)) (.ite (.cmp .eql (.var 2) (.var 15)) (.ite (.cmp .eql (.var 3) (.var 16)) (.ite (.cmp .eql (.var 4) (.var 17)) (.ite (.cmp .eql (.var 5) (.var 18)) (.ite (.cmp .eql (.var 6) (.var 19)) (.ite (.cmp .eql (.var 7) (.var 20)) (.ite (.cmp .eql (.var 8) (.var 21)) (.ite (.cmp .eql (.var 9) (.var 22)) (.ite (.cmp .eql (.var 10) (.var 23)) (.ite (.cmp .eql (.var 11) (.var 24)) (.ite (.cmp .eql (.var 12) (.var 25)) (.cmp .eql (.var 13) (.var 26)) (.bool false)) (.bool false)) (.bool false)) (.bool false)) (.bool false)) (.bool false)) (.bool false)) (.bool false)) (.bool false)) (.bool false)) (.bool false)) (.bool false))])
   (.evs [.call 3 [(.var 1), (.int .i64 1), (.int .i64 0), (.int .i64 1), (.int .i64 0), (.int .i64 1), (.int .i64 1)] none 7]
    (.evs [.call 4 [(.var 2), (.var 3), (.var 4), (.var 5), (.var 6), (.var 7), (.var 8), (.var 9), (.var 10), (.var 11), (.var 12), (.var 13), (.int .i64 1), (.int .i64 0), (.int .i64 1), (.int .i64 0), (.int .i64 1), (.int .i64 1)] none 7]
    (.lp 0 [(.int .i64 0), (.bool false)] [.int .i64, .bool]
    (.ite (.cmp .lss (.var 42) (.len (.var 1)))
     (.evs [.need [(.ite (.not (.var 43)) (.cmp .leq (.int .i64 0) (.var 42)) (.bool true)), (.ite (.not (.var 43)) (.cmp .lss (.var 42) (.len (.var 1))) (.bool true))],
        .need [(.ite (.not (.ite (.var 43) (.bool true) (.cmp .eql (.sidx (.var 1) (.var 42)) (.int .u8 102)))) (.cmp .leq (.int .i64 0) (.var 42)) (.bool true)), (.ite (.not (.ite (.var 43) (.bool true) (.cmp .eql (.sidx (.var 1) (.var 42)) (.int .u8 102)))) (.cmp .lss (.var 42) (.len (.var 1))) (.bool true))]]
      (.next 0 [(.ar .add .i64 (.var 42) (.int .i64 1)), (.ite (.ite (.var 43) (.bool true) (.cmp .eql (.sidx (.var 1) (.var 42)) (.int .u8 102))) (.bool true) (.cmp .eql (.sidx (.var 1) (.var 42)) (.int .u8 97)))]))
     (.evs [.call 5 [(.var 2), (.var 3), (.var 4), (.var 5), (.var 6), (.var 7), (.var 8), (.var 9), (.var 10), (.var 11), (.var 12), (.var 13)] none 13]
      (.evs [.call 6 [(.var 2), (.var 3), (.var 4), (.var 5), (.var 6), (.var 7), (.var 8), (.var 9), (.var 10), (.var 11), (.var 12), (.var 13), (.var 44), (.var 45), (.var 46), (.var 47), (.var 48), (.var 49), (.var 50), (.var 51), (.var 52), (.var 53), (.var 54), (.var 55)] none 13]
      (.evs [.call 7 [(.var 2), (.var 3), (.var 4), (.var 5), (.var 6), (.var 7), (.var 8), (.var 9), (.var 10), (.var 11), (.var 12), (.var 13)] (some (.ite (.ite (.ite (.not (.var 34)) (.bool true) (.not (.var 41))) (.bool true) (.ite (.cmp .eql (.var 28) (.var 35)) (.ite (.cmp .eql (.var 29) (.var 36)) (.ite (.cmp .eql (.var 30) (.var 37)) (.ite (.cmp .eql (.var 31) (.var 38)) (.ite (.cmp .eql (.var 32) (.var 39)) (.cmp .eql (.var 33) (.var 40)) (.bool false)) (.bool false)) (.bool false)) (.bool false)) (.bool false))) (.not (.ite (.ite (.var 43) (.bool true) (.not (.var 56))) (.bool true) (.not (.var 69)))) (.bool false))) 1]
      (.ret [(.ite (.ite (.ite (.not (.var 34)) (.bool true) (.not (.var 41))) (.bool true) (.ite (.cmp .eql (.var 28) (.var 35)) (.ite (.cmp .eql (.var 29) (.var 36)) (.ite (.cmp .eql (.var 30) (.var 37)) (.ite (.cmp .eql (.var 31) (.var 38)) (.ite (.cmp .eql (.var 32) (.var 39)) (.cmp .eql (.var 33) (.var 40)) (.bool false)) (.bool false)) (.bool false)) (.bool false)) (.bool false))) (.ite (.ite (.ite (.var 43) (.bool true) (.not (.var 56))) (.bool true) (.not (.var 69))) (.bool true) (.var 70)) (.bool false))])))))))))))))
def Ss_FnBenchMat (cb : CodeB) : List Spec := [(SP_DrawBenchMat cb), SP_iBenchMat, SP_sBenchMat, SP_iBenchRun, G_iMatApply.spec, G_iMatAdjoint.spec, G_iMatTimes.spec, G_iMatLossless.spec]
def vecN (g : Nat → Int) : RV := ofV (q3 (ivs g 0 6) 0) (q3 (ivs g 0 6) 3)
def okV (g : Nat → Int) : Prop := jonesQ (q3 (ivs g 0 6) 0) (q3 (ivs g 0 6) 3) = true
theorem ap_num {h g : Nat → Int} (hT : apT h g = true) : okV g ∧ ∃ v w, q3 (ivs (apN h g) 0 6) 0 = v ∧ q3 (ivs (apN h g) 0 6) 3 = w ∧
    mixQ (q3 (ivs h 0 12 ++ ivs g 0 6) (3 * 0)) (q3 (ivs h 0 12 ++ ivs g 0 6) 12) (q3 (ivs h 0 12 ++ ivs g 0 6) (3 * 1)) (q3 (ivs h 0 12 ++ ivs g 0 6) 15) = some v ∧
    mixQ (q3 (ivs h 0 12 ++ ivs g 0 6) (3 * 2)) (q3 (ivs h 0 12 ++ ivs g 0 6) 12) (q3 (ivs h 0 12 ++ ivs g 0 6) (3 * 3)) (q3 (ivs h 0 12 ++ ivs g 0 6) 15) = some w := by
  unfold apT at hT
  obtain ⟨ok, d⟩ := nttT_ok hT
  rw [Bool.and_eq_true] at ok
  obtain ⟨v, hv⟩ := d 0 (by omega)
  obtain ⟨w, hw⟩ := d 1 (by omega)
  refine ⟨ok.2, v, w, ?_, ?_, hv, hw⟩
  · have := ntt_tri hT hv
    exact this
  · have := ntt_tri hT hw
    exact this
theorem ap_val {h g : Nat → Int} (hT : apT h g = true) : vecN (apN h g) = (matL (ivs h 0 12)).app (vecN g) ∧ okV (apN h g) ∧ okV g := by
  obtain ⟨hg, v, w, e0, e1, hv, hw⟩ := ap_num hT
  have eA : ∀ k, k < 4 → q3 (ivs h 0 12 ++ ivs g 0 6) (3 * k) = q3 (ivs h 0 12) (3 * k) := get4 rfl rfl rfl rfl
  have e12 : q3 (ivs h 0 12 ++ ivs g 0 6) 12 = q3 (ivs g 0 6) 0 := rfl
  have e15 : q3 (ivs h 0 12 ++ ivs g 0 6) 15 = q3 (ivs g 0 6) 3 := rfl
  rw [e12, e15] at hv hw
  rw [eA 0 (by omega), eA 1 (by omega)] at hv
  rw [eA 2 (by omega), eA 3 (by omega)] at hw
  obtain ⟨a1, a2, a3⟩ := mix_val hv
  obtain ⟨b1, b2, b3⟩ := mix_val hw
  refine ⟨?_, ?_, hg⟩
  · unfold vecN
    rw [e0, e1]
    exact RV.eq a1 a2 b1 b2
  · unfold okV jonesQ
    rw [e0, e1, a3, b3]
    rfl
theorem stepR_val {p : Pc} {g : Nat → Int} {o : List Value} (h : stepR p (ivs g 0 6) = some o) : ∃ g', o = ivs g' 0 6 ∧ b0 (pieceM p.k p.ns) 12 = true ∧ vecN g' = (pm p).app (vecN g) ∧ okV g' := by
  obtain ⟨f, b, e⟩ := pieceM_lit p.k p.ns
  rw [stepR_lit e] at h
  split at h
  · rename_i hc
    rw [Bool.and_eq_true] at hc
    obtain ⟨rfl, hT⟩ := hc
    obtain ⟨v1, v2, _⟩ := ap_val hT
    refine ⟨_, (Option.some.inj h).symm, by rw [e]; rfl, ?_, v2⟩
    rw [v1]
    unfold pm
    rw [e]
    rfl
  · cases h
theorem benchR_val : ∀ {l : List Pc} {g : Nat → Int} {o : List Value}, okV g → benchR (some (ivs g 0 6)) l = some o →
    ∃ g', o = ivs g' 0 6 ∧ vecN g' = (prodP l).app (vecN g) ∧ okV g' ∧ ∀ p ∈ l, b0 (pieceM p.k p.ns) 12 = true
  | [], g, o, hg, h => ⟨g, (Option.some.inj h).symm, (RM.app_one _).symm, hg, fun p hp => by cases hp⟩
  | p :: r, g, o, hg, h => by
    have h : benchR (stepR p (ivs g 0 6)) r = some o := h
    cases hs : stepR p (ivs g 0 6) with
    | none => rw [hs, benchR_none] at h; cases h
    | some a =>
      rw [hs] at h
      obtain ⟨g1, rfl, b1, m1, k1⟩ := stepR_val hs
      obtain ⟨g2, rfl, m2, k2, b2⟩ := benchR_val k1 h
      refine ⟨g2, rfl, ?_, k2, fun q hq => ?_⟩
      · rw [m2, m1, prodP, RM.app_mul]
      · rcases List.mem_cons.1 hq with rfl | hq
        · exact b1
        · exact b2 q hq
theorem startR_some {g : Nat → Int} {o : List Value} (h : startR g = some o) : okV g ∧ o = ivs g 0 6 := by
  unfold startR at h
  split at h
  · rename_i hc
    exact ⟨hc, (Option.some.inj h).symm⟩
  · cases h
theorem runV_true {s : List UInt8} {v : Nat → Int} (h : b0 (benchRV s v) 6 = true) : ∃ ps g, benchW s = some ps ∧ okV v ∧ benchR (startR v) ps = some (ivs g 0 6) ∧ benchRV s v = ivs g 0 6 ++ [.bool true] ∧ vecN g = (prodP ps).app (vecN v) ∧ okV g ∧ ∀ p ∈ ps, b0 (pieceM p.k p.ns) 12 = true := by
  unfold benchRV at h ⊢
  cases hb : benchW s with
  | none => rw [hb] at h; cases h
  | some ps =>
    rw [hb] at h
    dsimp only at h ⊢
    cases hs : startR v with
    | none => rw [hs, benchR_none] at h; cases h
    | some a =>
      obtain ⟨hv, rfl⟩ := startR_some hs
      cases hr : benchR (some (ivs v 0 6)) ps with
      | none => rw [hs, hr] at h; cases h
      | some o =>
        obtain ⟨g, rfl, m, k, b⟩ := benchR_val hv hr
        exact ⟨ps, g, rfl, hv, by rw [hr], rfl, m, k, b⟩
theorem oneG_val : matL (ivs oneG 0 12) = RM.one ∧ okL (ivs oneG 0 12) := by
  refine ⟨?_, get4 (by decide) (by decide) (by decide) (by decide)⟩
  show (⟨reR (1, 0, 1), reR (0, 0, 1), reR (0, 0, 1), reR (1, 0, 1), imR (1, 0, 1), imR (0, 0, 1), imR (0, 0, 1), imR (1, 0, 1)⟩ : RM) = _
  rw [show reR (0, 0, 1) = 0 by decide +kernel, show imR (0, 0, 1) = 0 by decide +kernel, show reR (1, 0, 1) = 1 by decide +kernel, show imR (1, 0, 1) = 0 by decide +kernel]
  rfl
theorem matV_true {s : List UInt8} (h : b0 (benchMV s) 12 = true) : ∃ ps g, benchW s = some ps ∧ benchM (some (ivs oneG 0 12)) ps = some (ivs g 0 12) ∧ benchMV s = ivs g 0 12 ++ [.bool true] ∧ matL (ivs g 0 12) = prodP ps ∧ okL (ivs g 0 12) ∧ ∀ p ∈ ps, b0 (pieceM p.k p.ns) 12 = true := by
  unfold benchMV at h ⊢
  cases hb : benchW s with
  | none => rw [hb] at h; cases h
  | some ps =>
    rw [hb] at h
    dsimp only at h ⊢
    cases hr : benchM (some (ivs oneG 0 12)) ps with
    | none => rw [hr] at h; cases h
    | some o =>
      obtain ⟨g, rfl, m, k, b⟩ := benchM_val oneG_val.2 hr
      rw [oneG_val.1, RM.mul_one] at m
      exact ⟨ps, g, rfl, hr, rfl, m, k, b⟩
theorem benchRV_lit (s : List UInt8) (v : Nat → Int) : ∃ (g : Nat → Int) (b : Bool), benchRV s v = ivs g 0 6 ++ [.bool b] := by
  have key : ∀ (l : List Pc) (acc : Option (List Value)) (o : List Value), (∀ a, acc = some a → ∃ g : Nat → Int, a = ivs g 0 6) → benchR acc l = some o → ∃ g : Nat → Int, o = ivs g 0 6 := by
    intro l
    induction l with
    | nil => intro acc o h1 h2; exact h1 o h2
    | cons p r ih =>
      intro acc o h1 h2
      refine ih _ o ?_ h2
      intro a ha
      obtain ⟨c, hc, h3⟩ := Option.bind_eq_some_iff.1 ha
      obtain ⟨g, rfl⟩ := h1 c hc
      obtain ⟨h, b, e⟩ := pieceM_lit p.k p.ns
      rw [stepR_lit e] at h3
      split at h3
      · exact ⟨_, (Option.some.inj h3).symm⟩
      · cases h3
  unfold benchRV
  split
  · split
    · rename_i o ho
      obtain ⟨g, rfl⟩ := key _ _ _ (fun a ha => by
        unfold startR at ha
        split at ha
        · exact ⟨v, (Option.some.inj ha).symm⟩
        · cases ha) ho
      exact ⟨g, true, rfl⟩
    · exact ⟨fun _ => 0, false, rfl⟩
  · exact ⟨fun _ => 0, false, rfl⟩
theorem benchMV_lit (s : List UInt8) : ∃ (g : Nat → Int) (b : Bool), benchMV s = ivs g 0 12 ++ [.bool b] := by
  have key : ∀ (l : List Pc) (acc : Option (List Value)) (o : List Value), (∀ a, acc = some a → ∃ g : Nat → Int, a = ivs g 0 12) → benchM acc l = some o → ∃ g : Nat → Int, o = ivs g 0 12 := by
    intro l
    induction l with
    | nil => intro acc o h1 h2; exact h1 o h2
    | cons p r ih =>
      intro acc o h1 h2
      refine ih _ o ?_ h2
      intro a ha
      obtain ⟨c, hc, h3⟩ := Option.bind_eq_some_iff.1 ha
      obtain ⟨g, rfl⟩ := h1 c hc
      obtain ⟨h, b, e⟩ := pieceM_lit p.k p.ns
      rw [stepM_lit e] at h3
      split at h3
      · exact ⟨_, (Option.some.inj h3).symm⟩
      · cases h3
  unfold benchMV
  split
  · split
    · rename_i o ho
      obtain ⟨g, rfl⟩ := key _ _ _ (fun a ha => ⟨oneG, (Option.some.inj ha).symm⟩) ho
      exact ⟨g, true, rfl⟩
    · exact ⟨fun _ => 0, false, rfl⟩
  · exact ⟨fun _ => 0, false, rfl⟩
theorem ivs_same' {f g : Nat → Int} : ∀ (n k : Nat), (∀ i, k ≤ i → i < k + n → f i = g i) → ivs f k n = ivs g k n
  | 0, _, _ => rfl
  | n + 1, k, h => by
    rw [ivs, ivs, h k (Nat.le_refl _) (by omega), ivs_same' n (k + 1) fun i h1 h2 => h i (by omega) (by omega)]
theorem same_of_tri {f g : Nat → Int} {n : Nat} (h : ∀ k, k < n → tri f (3 * k) = tri g (3 * k)) : ivs f 0 (3 * n) = ivs g 0 (3 * n) :=
  ivs_same' _ _ fun i _ hi => by rw [← cmp_tri f i, ← cmp_tri g i, h (i / 3) (by omega)]
theorem mat_same {f g : Nat → Int} (hf : okL (ivs f 0 12)) (hg : okL (ivs g 0 12)) (h : matL (ivs f 0 12) = matL (ivs g 0 12)) : ivs f 0 12 = ivs g 0 12 := by
  have e := congrArg (fun m : RM => ((m.p0, m.p1, m.p2, m.p3), (m.q0, m.q1, m.q2, m.q3))) h
  simp only [matL, ofQ, Prod.mk.injEq] at e
  obtain ⟨⟨p0, p1, p2, p3⟩, q0, q1, q2, q3'⟩ := e
  refine same_of_tri (n := 4) (get4 ?_ ?_ ?_ ?_)
  · exact val_inj (hf 0 (by omega)) (hg 0 (by omega)) p0 q0
  · exact val_inj (hf 1 (by omega)) (hg 1 (by omega)) p1 q1
  · exact val_inj (hf 2 (by omega)) (hg 2 (by omega)) p2 q2
  · exact val_inj (hf 3 (by omega)) (hg 3 (by omega)) p3 q3'
theorem vec_same {f g : Nat → Int} (hf : okV f) (hg : okV g) (h : vecN f = vecN g) : ivs f 0 6 = ivs g 0 6 := by
  have e := congrArg (fun v : RV => ((v.a, v.b), (v.c, v.d))) h
  simp only [vecN, ofV, Prod.mk.injEq] at e
  obtain ⟨⟨p0, q0⟩, p1, q1⟩ := e
  unfold okV jonesQ at hf hg
  rw [Bool.and_eq_true] at hf hg
  refine same_of_tri (n := 2) fun k hk => ?_
  rcases (by omega : k = 0 ∨ k = 1) with rfl | rfl
  · exact val_inj hf.1 hg.1 p0 q0
  · exact val_inj hf.2 hg.2 p1 q1
theorem mat_law {s : List UInt8} {v g : Nat → Int} {x : Nat → Int} (hm : benchMV s = ivs g 0 12 ++ [.bool true]) (hr : benchRV s v = ivs x 0 6 ++ [.bool true]) (hT : apT g v = true) : ivs x 0 6 = ivs (apN g v) 0 6 := by
  have h1 : b0 (benchMV s) 12 = true := by rw [hm]; rfl
  have h2 : b0 (benchRV s v) 6 = true := by rw [hr]; rfl
  obtain ⟨ps, f, e1, _, e2, m1, k1, _⟩ := matV_true h1
  obtain ⟨qs, y, e3, _, _, e4, m2, k2, _⟩ := runV_true h2
  rw [e1] at e3
  cases e3
  have ef : ivs f 0 12 = ivs g 0 12 := by rw [hm] at e2; exact (List.append_cancel_right e2).symm
  have ey : ivs y 0 6 = ivs x 0 6 := by rw [hr] at e4; exact (List.append_cancel_right e4).symm
  obtain ⟨a1, a2, _⟩ := ap_val hT
  rw [← ey]
  refine vec_same k2 a2 ?_
  rw [m2, a1, ← m1, ef]
theorem ivs_inj {f g : Nat → Int} {n : Nat} (h : ivs f 0 n = ivs g 0 n) : ∀ i, i < n → f i = g i := by
  intro i hi
  have h1 := ivs_getElem? f n 0 i hi
  rw [h, ivs_getElem? g n 0 i hi] at h1
  have := Option.some.inj h1
  simp only [Nat.zero_add, Value.int.injEq, true_and] at this
  exact this.symm
theorem mem_joinB {c b : UInt8} {w : List UInt8} (hb : b ∈ w) : ∀ {ws : List (List UInt8)}, w ∈ ws → b ∈ joinB c ws
  | [x], h => by rw [List.mem_singleton.1 h] at hb; exact hb
  | x :: y :: r, h => by
    rw [joinB, List.mem_append]
    rcases List.mem_cons.1 h with rfl | h
    · exact .inl hb
    · exact .inr (List.mem_cons_of_mem _ (mem_joinB hb h))
theorem letter_in {s : List UInt8} {ps : List Pc} (h : benchW s = some ps) {p : Pc} (hp : p ∈ ps) : p.k ∈ s := by
  obtain ⟨_, ⟨rfl, rfl⟩ | ⟨hs, h2⟩⟩ := benchW_some h
  · cases hp
  · have h3 := (pcsW_ok h2 p hp).2.2
    have hk : p.k ∈ p.t := by
      cases ht : p.t with
      | nil => rw [ht] at h3; cases h3
      | cons k r =>
        rw [ht] at h3
        obtain ⟨ns, _, _, e⟩ := pieceW_cons h3
        cases e
        exact List.mem_cons_self
    rw [← benchW_join h]
    exact mem_joinB hk (List.mem_map_of_mem hp)
theorem lossless_mat {s : List UInt8} {g : Nat → Int} (hm : benchMV s = ivs g 0 12 ++ [.bool true]) (h1 : (102 : UInt8) ∉ s) (h2 : (97 : UInt8) ∉ s) : (matL (ivs g 0 12)).U ∧ okL (ivs g 0 12) := by
  have hb : b0 (benchMV s) 12 = true := by rw [hm]; rfl
  obtain ⟨ps, f, e1, _, e2, m1, k1, b1⟩ := matV_true hb
  have ef : ivs f 0 12 = ivs g 0 12 := by rw [hm] at e2; exact (List.append_cancel_right e2).symm
  rw [← ef]
  refine ⟨?_, k1⟩
  rw [m1]
  refine prod_U fun p hp => ?_
  have ho := benchW_ok e1 p hp
  have hl := letter_in e1 hp
  obtain ⟨_, _, h | ⟨rfl', _⟩ | ⟨rfl', _⟩⟩ := piece_kinds ho (b1 p hp)
  · exact h
  · rw [rfl'] at hl; exact absurd hl h1
  · rw [rfl'] at hl; exact absurd hl h2
theorem lossless_one {g : Nat → Int} (hU : (matL (ivs g 0 12)).U) (hg : okL (ivs g 0 12)) (hT : mulT g (adjN g) = true) : ivs (mulN g (adjN g)) 0 12 = ivs oneG 0 12 := by
  obtain ⟨v1, v2⟩ := mul_valL hT
  refine mat_same v2 oneG_val.2 ?_
  rw [v1, (adj_val hg).1, hU.1, oneG_val.1]
def lossyB (s : List UInt8) (i : Nat) : Bool := (s.take i).any fun c => c == 102 || c == 97
theorem lossy_snoc {s : List UInt8} {i : Nat} (h : i < s.length) : lossyB s (i + 1) = (lossyB s i || (s[i] == 102 || s[i] == 97)) := by
  have e : s.take (i + 1) = s.take i ++ [s[i]] := by rw [List.take_add_one, List.getElem?_eq_getElem h]; rfl
  unfold lossyB
  rw [e, List.any_append]
  simp only [List.any_cons, List.any_nil, Bool.or_false]
theorem lossy_none {s : List UInt8} (h : lossyB s s.length = false) : (102 : UInt8) ∉ s ∧ (97 : UInt8) ∉ s := by
  unfold lossyB at h
  rw [List.take_length, List.any_eq_false] at h
  exact ⟨fun hm => by simpa using h _ hm, fun hm => by simpa using h _ hm⟩
theorem byte_beq (s : List UInt8) {i : Nat} (h : i < s.length) (c : UInt8) : Value.bool (byteV (strV (bv s)) ((i : Nat) : Int) == (c.toNat : Int)) = .bool (s[i] == c) := by
  congr 1
  have e : byteV (strV (bv s)) ((i : Nat) : Int) = ((s[i]).toNat : Int) := by
    unfold byteV
    rw [Int.toNat_natCast]
    show (((s.toArray.toList).getD i 0).toNat : Int) = _
    simp [List.getD_eq_getElem?_getD, List.getElem?_eq_getElem h]
  rw [e, Bool.eq_iff_iff, beq_iff_eq, beq_iff_eq]
  constructor
  · intro h; exact UInt8.toNat_inj.1 (by omega)
  · intro h; rw [h]
theorem env_to {P : Program} {specs : List Spec} {t : Tr} {E E1 : List Value} {N : List (List Value → Prop)} {K : List Value → Prop} (e : E = E1) (h : sat P specs t E1 N K) : sat P specs t E N K := e ▸ h
theorem K_to {K : List Value → Prop} {a b : List Value} (e : a = b) (h : K b) : K a := e ▸ h
def vI (i : Nat) : Int := if i = 0 then 1 else if i = 2 then 1 else if i = 4 then 1 else if i = 5 then 1 else 0
set_option maxHeartbeats 1000000 in
theorem sat_FnBenchMat (P : Program) (cb : CodeB) (hk : CodeOk cb) (ins : List Value) (K : List Value → Prop) (_ : TypedL [.sl] ins) (hp : (lawF cb).pre ins) (hK : K [.bool true]) : sat P (Ss_FnBenchMat cb) tr_FnBenchMat ins [] K := by
  refine law_bench (fun v0 s hs => ?_) hp hK
  obtain ⟨g, t, e⟩ := benchMV_lit s
  refine evs_step (call_step rfl ⟨s, rfl, by omega, ?_⟩)
  rw [e]
  refine evs_nil (evs_step (call_step rfl ⟨s, rfl, ?_⟩))
  rw [e]
  refine evs_nil ?_
  have es : eqL g g 0 12 = .bool true := eqL_true _ _ fun _ _ _ => rfl
  refine ⟨fun _ => ?_, fun hc => ?_⟩
  · show K [if toB (Value.bool (t == t)) = true then eqL g g 0 12 else .bool false]
    rw [es, beq_self_eq_true]
    exact hK
  have ht : t = true := by
    have hc : (if toB (if toB (Value.bool (!(t == t))) = true then Value.bool true else .bool (!toB (eqL g g 0 12))) = true then Value.bool true else .bool (!t)) = .bool false := hc
    rw [es, beq_self_eq_true] at hc
    cases t with
    | true => rfl
    | false => cases hc
  subst ht
  obtain ⟨x, p, ex⟩ := benchRV_lit s vI
  refine evs_step (call_step rfl ⟨s, vI, rfl, by omega, ?_⟩)
  rw [ex]
  refine evs_nil (evs_step (call_step rfl ⟨trivial, evs_nil ?_⟩))
  refine env_to (E1 := [v0, bv s] ++ (ivs g 0 12 ++ [.bool true]) ++ (ivs g 0 12 ++ [.bool true]) ++ (ivs x 0 6 ++ [.bool p]) ++ (ivs (apN g vI) 0 6 ++ [.bool (apT g vI)])) (by kernel_rfl) ?_
  refine ⟨fun vs => ∃ i : Nat, vs = [.int .i64 i, .bool (lossyB s i)] ∧ i ≤ s.length, fun vs => s.length - (toI (vs.getD 0 undef)).toNat, ⟨0, rfl, Nat.zero_le _⟩, ?_⟩
  rintro vs _ ⟨i, rfl, hi⟩
  refine ⟨fun hc => ?_, fun hc => ?_⟩
  · have hlt : i < s.length := by
      have hc : Value.bool (decide ((i : Int) < lenV (bv s))) = .bool true := hc
      rw [len_bv] at hc
      have := bt_of hc; omega
    have n1 : Value.bool (decide ((0 : Int) ≤ (i : Int))) = .bool true := bt (by omega)
    have n2 : Value.bool (decide ((i : Int) < lenV (bv s))) = .bool true := bt (by rw [len_bv]; omega)
    have nn : ∀ v : Value, (if toB v = true then Value.bool (decide ((0 : Int) ≤ (i : Int))) else .bool true) = .bool true ∧ (if toB v = true then Value.bool (decide ((i : Int) < lenV (bv s))) else .bool true) = .bool true := fun v => by
      rw [n1, n2]
      split <;> exact ⟨rfl, rfl⟩
    refine evs_step (need_step (all_cons (nn _).1 (all_cons (nn _).2 all_nil)) (need_step (all_cons (nn _).1 (all_cons (nn _).2 all_nil)) (evs_nil ?_)))
    have hw : IntKind.i64.wrap ((i : Int) + 1) = ((i + 1 : Nat) : Int) := by rw [wrap_in (by omega)]; omega
    refine ⟨⟨i + 1, ?_, by omega⟩, ?_⟩
    · show [Value.int .i64 (IntKind.i64.wrap ((i : Int) + 1)), (if toB (if toB (.bool (lossyB s i)) = true then Value.bool true else Value.bool (byteV (strV (bv s)) ((i : Nat) : Int) == ((102 : UInt8).toNat : Int))) = true then Value.bool true else Value.bool (byteV (strV (bv s)) ((i : Nat) : Int) == ((97 : UInt8).toNat : Int)))] = _
      rw [hw, byte_beq s hlt, byte_beq s hlt, lossy_snoc hlt]
      cases lossyB s i <;> cases s[i] == 102 <;> rfl
    · show s.length - (toI (.int .i64 (IntKind.i64.wrap ((i : Int) + 1)))).toNat < s.length - (toI (.int .i64 (i : Int))).toNat
      rw [hw]
      simp only [toI_int]
      omega
  · have hge : i = s.length := by
      have hc : Value.bool (decide ((i : Int) < lenV (bv s))) = .bool false := hc
      rw [len_bv] at hc
      have := bf_of hc; omega
    subst hge
    refine evs_step (call_step rfl ⟨trivial, evs_nil ?_⟩)
    refine env_to (E1 := [v0, bv s] ++ (ivs g 0 12 ++ [.bool true]) ++ (ivs g 0 12 ++ [.bool true]) ++ (ivs x 0 6 ++ [.bool p]) ++ (ivs (apN g vI) 0 6 ++ [.bool (apT g vI)]) ++ [.int .i64 s.length, .bool (lossyB s s.length)] ++ (ivs (adjN g) 0 12 ++ [.bool (b0 (adjW (ivs g 0 12)) 12)])) (by kernel_rfl) ?_
    refine evs_step (call_step rfl ⟨trivial, evs_nil ?_⟩)
    refine env_to (E1 := [v0, bv s] ++ (ivs g 0 12 ++ [.bool true]) ++ (ivs g 0 12 ++ [.bool true]) ++ (ivs x 0 6 ++ [.bool p]) ++ (ivs (apN g vI) 0 6 ++ [.bool (apT g vI)]) ++ [.int .i64 s.length, .bool (lossyB s s.length)] ++ (ivs (adjN g) 0 12 ++ [.bool (b0 (adjW (ivs g 0 12)) 12)]) ++ (ivs (mulN g (adjN g)) 0 12 ++ [.bool (mulT g (adjN g))])) (by kernel_rfl) ?_
    generalize hl : lossyB s s.length = l
    generalize hr : b0 (adjW (ivs g 0 12)) 12 = r
    have k1 : (if toB (if toB (.bool (!p)) = true then Value.bool true else .bool (!(apT g vI))) = true then Value.bool true else eqL x (apN g vI) 0 6) = .bool true := by
      cases p with
      | false => rfl
      | true =>
        cases hT : apT g vI with
        | false => rfl
        | true => exact eqL_true _ _ fun i _ hi => ivs_inj (mat_law e ex hT) i (by omega)
    have k2 : lossW g = .bool true ∨ (if toB (if toB (.bool l) = true then Value.bool true else .bool (!r)) = true then Value.bool true else .bool (!(mulT g (adjN g)))) = .bool true := by
      cases l with
      | true => exact .inr rfl
      | false =>
        cases r with
        | false => exact .inr rfl
        | true =>
          cases hT : mulT g (adjN g) with
          | false => exact .inr rfl
          | true =>
            left
            obtain ⟨l1, l2⟩ := lossy_none hl
            obtain ⟨u1, u2⟩ := lossless_mat e l1 l2
            unfold lossW
            rw [hT]
            show eqL (mulN g (adjN g)) oneG 0 12 = .bool true
            exact eqL_true _ _ fun i _ hi => ivs_inj (lossless_one u1 u2 hT) i (by omega)
    refine evs_step (callg_step rfl (fun h => ⟨trivial, evs_nil ?_⟩) (fun h => evs_nil ?_))
    · refine K_to (b := [if toB (if toB (if toB (.bool (!p)) = true then Value.bool true else .bool (!(apT g vI))) = true then Value.bool true else eqL x (apN g vI) 0 6) = true then (if toB (if toB (if toB (.bool l) = true then Value.bool true else .bool (!r)) = true then Value.bool true else .bool (!(mulT g (adjN g)))) = true then Value.bool true else lossW g) else .bool false]) (by kernel_rfl) ?_
      rw [k1]
      rcases k2 with k | k
      · rw [k]
        have ii : ∀ v : Value, (if toB v = true then Value.bool true else .bool true) = Value.bool true := fun v => by split <;> rfl
        rw [ii]
        exact hK
      · rw [k]
        exact hK
    · have h : toB (if toB (if toB (if toB (.bool (!p)) = true then Value.bool true else .bool (!(apT g vI))) = true then Value.bool true else eqL x (apN g vI) 0 6) = true then Value.bool (!toB (if toB (if toB (.bool l) = true then Value.bool true else .bool (!r)) = true then Value.bool true else .bool (!(mulT g (adjN g))))) else .bool false) = false := Eq.trans (by kernel_rfl) h
      rw [k1] at h
      refine K_to (b := [if toB (if toB (if toB (.bool (!p)) = true then Value.bool true else .bool (!(apT g vI))) = true then Value.bool true else eqL x (apN g vI) 0 6) = true then (if toB (if toB (if toB (.bool l) = true then Value.bool true else .bool (!r)) = true then Value.bool true else .bool (!(mulT g (adjN g)))) = true then Value.bool true else undef) else .bool false]) (by kernel_rfl) ?_
      rw [k1]
      have h2 : toB (if toB (if toB (.bool l) = true then Value.bool true else .bool (!r)) = true then Value.bool true else .bool (!(mulT g (adjN g)))) = true := by
        have h : (!toB (if toB (if toB (.bool l) = true then Value.bool true else .bool (!r)) = true then Value.bool true else .bool (!(mulT g (adjN g))))) = false := h
        simpa using h
      rw [if_pos h2]
      exact hK

end Go.Sx

import Derived.Test.YtbdinipcomjmeaaGreatDoorRkAFnBenchTable
import Derived.KernelRfl
namespace Go.Sx
open Go
set_option maxRecDepth 100000
set_option linter.unusedSimpArgs false
set_option linter.unusedVariables false
set_option maxHeartbeats 1000000 in
theorem sat_l7Bench (P : Program) (ins : List Value) (K : List Value → Prop) (_ : TypedL [.str] ins) (h : SP_l7Bench ins K) : sat P Ss_l7Bench tr_l7Bench ins [] K := by
  obtain ⟨s, rfl, hK⟩ := h
  have hlen : lenV (bv s) = (s.length : Int) := len_bv s
  have hno : benchW s = none → ∀ x c, K [x, .bool false, c] := by
    intro hn
    rw [hn] at hK
    exact hK
  refine evs_step (app_empty (by omega) fun a1 cap1 => evs_nil ?_)
  refine ⟨fun hc => ?_, fun hc => ?_⟩
  · have hc : Value.bool ((strV (bv s)).toList == (strV (bv [])).toList) = .bool true := hc
    rw [seq_bv] at hc
    have hs := bt_of hc
    subst hs
    exact hK a1 0 cap1 [] rfl (fun p hp => by cases hp) rfl
  · have hc : Value.bool ((strV (bv s)).toList == (strV (bv [])).toList) = .bool false := hc
    rw [seq_bv] at hc
    have hs := bf_of hc
    clear hc
    refine ⟨fun hc => ?_, fun hc => ?_⟩
    · have hc : Value.bool (decide (lenV (bv s) > 300)) = .bool true := hc
      rw [hlen] at hc
      have hgt := bt_of hc
      refine hno ?_ _ _
      cases hb : benchW s with
      | none => rfl
      | some ps => have := benchW_length hb; omega
    · have hc : Value.bool (decide (lenV (bv s) > 300)) = .bool false := hc
      rw [hlen] at hc
      have hle := bf_of hc
      refine evs_step (call_step rfl ⟨s, 32, rfl, by omega, fun a2 len2 cap2 hl2 => evs_nil ?_⟩)
      subst hl2
      have hcc := cut_count 32 s
      refine ⟨fun vs => ∃ (i : Nat) (a : Option Addr) (cap : Nat) (l : List PV), vs = [.int .i64 i, .slice a i cap, rowL l] ∧ i ≤ (cut 32 s).length ∧ pcsW ((cut 32 s).take i) = some (l.map Prod.fst) ∧ (∀ p ∈ l, SlOk p), fun vs => (cut 32 s).length - (toI (vs.getD 0 undef)).toNat, ?_, ?_⟩
      · exact ⟨0, a1, cap1, [], rfl, Nat.zero_le _, rfl, fun p hp => by cases hp⟩
      · rintro vs hty ⟨i, a, cap, l, rfl, hi, hps, hok⟩
        have hnl : l.length = i := by
          have := (pcsW_length hps).1
          simp at this; omega
        refine ⟨fun hc => ?_, fun hc => ?_⟩
        · have hlt : i < (cut 32 s).length := by
            have hc : Value.bool (decide ((i : Int) < ((cut 32 s).length : Int))) = .bool true := hc
            have := bt_of hc; omega
          have hx := List.getElem?_eq_getElem hlt
          have hw : IntKind.i64.wrap ((i : Int) + 1) = ((i + 1 : Nat) : Int) := by rw [wrap_in (by omega)]; omega
          have htk : (cut 32 s).take (i + 1) = (cut 32 s).take i ++ [(cut 32 s)[i]] := by rw [List.take_add_one, hx]; rfl
          have hwl := cut_len 32 s _ (List.getElem_mem hlt)
          have hsn := pcsW_snoc (w := (cut 32 s)[i]) (ws := (cut 32 s).take i)
          rw [hps] at hsn
          refine evs_step (need_step (all_cons (inb_true (c := rowS (cut 32 s)) (i := i) (n := 1) (by simp [rowS_cells]; omega)) all_nil) (call_step rfl ?_))
          refine ⟨(cut 32 s)[i], ?_, by omega, ?_⟩
          · show [(rowS (cut 32 s)).cells.getD (((i : Int)).toNat * 1 + 0) undef] = _
            rw [Int.toNat_natCast, rowS_get hx]
          rw [pieceW_same]
          cases hv : pieceW num (cut 32 s)[i] with
          | none =>
            intro k x c
            refine evs_nil (ite_t rfl ?_)
            refine hno ?_ _ _
            have : pcsW (cut 32 s) = none := pcsW_none hv (List.getElem_mem hlt)
            unfold benchW
            rw [if_neg hs, this]
          | some p =>
            obtain ⟨k, ns⟩ := p
            rw [hv] at hsn
            have hsn : pcsW ((cut 32 s).take i ++ [(cut 32 s)[i]]) = some (l.map Prod.fst ++ [⟨k, ns, (cut 32 s)[i]⟩]) := hsn
            intro a3 len3 cap3 hl3
            subst hl3
            refine evs_nil (ite_f rfl ?_)
            refine evs_step (app_step (xs := l.flatMap cL) (ys := cL (⟨k, ns, (cut 32 s)[i]⟩, .slice a3 ns.length cap3)) rfl rfl (by rw [flat_length (n := 2) (fun _ => rfl)]; simp [cL]; omega) fun a4 len4 cap4 _ hl4 => evs_nil ?_)
            have hl4 : len4 = i + 1 := by rw [flat_length (n := 2) (fun _ => rfl)] at hl4; simp [cL] at hl4; omega
            subst hl4
            refine ⟨⟨i + 1, a4, cap4, l ++ [(⟨k, ns, (cut 32 s)[i]⟩, .slice a3 ns.length cap3)], ?_, hlt, by rw [htk, hsn]; simp, fun p hp => ?_⟩, ?_⟩
            · rw [← rowL_snoc]
              show [Value.int .i64 (IntKind.i64.wrap ((i : Int) + 1)), .slice a4 (i + 1) cap4, Value.agg (l.flatMap cL ++ cL (⟨k, ns, (cut 32 s)[i]⟩, .slice a3 ns.length cap3)).toArray] = _
              rw [hw]
            · rcases List.mem_append.1 hp with hp | hp
              · exact hok p hp
              · rw [List.mem_singleton.1 hp]
                exact ⟨a3, cap3, rfl⟩
            · show (cut 32 s).length - (IntKind.i64.wrap ((i : Int) + 1)).toNat < (cut 32 s).length - ((i : Int)).toNat
              rw [hw, Int.toNat_natCast, Int.toNat_natCast]
              omega
        · have hge : i = (cut 32 s).length := by
            have hc : Value.bool (decide ((i : Int) < ((cut 32 s).length : Int))) = .bool false := hc
            have := bf_of hc; omega
          rw [hge, List.take_length] at hps
          show K [.slice a i cap, .bool (decide ((i : Int) ≤ 12)), rowL l]
          unfold benchW at hK
          rw [if_neg hs, hps] at hK
          dsimp only at hK
          rw [List.length_map, hnl] at hK
          by_cases h12 : i ≤ 12
          · rw [if_pos h12] at hK
            rw [decide_eq_true (by omega)]
            exact hK a i cap l rfl hok (by simp [hnl])
          · rw [if_neg h12] at hK
            rw [decide_eq_false (by omega)]
            exact hK _ _
def tr_readPiece : Tr := (.ite (.seq ξr20 (.val (.string ⟨#[]⟩))) (.ret [(.int .u8 0), (.val (.slice none 0 0)), ξr20, ξr2, (.val (.agg #[]))]) (.evs [.need [ξr5, (.cmp .lss ξr0 ξr76)]] (.evs [.need [ξr5, (.cmp .leq ξr3 ξr76), (.cmp .leq ξr76 ξr76)], .call 0 [(.ssub ξr20 ξr3 ξr76), (.val (.string ⟨#[58]⟩))] none 2] (.lp 0 [ξr0, (.val (.slice none 0 0)), (.val (.agg #[]))] [.int .i64, .sl, .row .i64 1] (.ite (.cmp .lss ξr21 (.len ξr27)) (.evs [.need [(.inb ξr22 ξr21 1)]] (.evs [.call 1 [(.sel ξr22 ξr21 1 0)] none 2] (.ite (.not ξr29) (.ret [(.sidx ξr20 ξr0), ξr23, ξr20, ξr2, ξr24]) (.evs [.app ξr24 1 (.cells [ξr25])] (.next 0 [(.ar .add .i64 ξr21 ξr3), ξr34, ξr35]))))) (.ite (.cmp .eql (.sidx ξr20 ξr0) (.int .u8 119)) (.ite (.cmp .neq (.len ξr23) (.int .i64 3)) (.ret [(.sidx ξr20 ξr0), ξr23, ξr20, ξr2, ξr24]) ξr33) (.ite (.cmp .neq (.len ξr23) ξr77) (.ret [(.sidx ξr20 ξr0), ξr23, ξr20, ξr2, ξr24]) ξr33)))))))
def Ss_readPiece : List Spec := [SP_Split, SP_plainNumber, G_direction.spec, G_within.spec]
def SP_readPiece : Spec := SP_rp
set_option maxHeartbeats 2000000 in
theorem sat_readPiece (P : Program) (ins : List Value) (K : List Value → Prop) (_ : TypedL [.str] ins) (h : SP_readPiece ins K) : sat P Ss_readPiece tr_readPiece ins [] K := by
  obtain ⟨s, rfl, hl, hK⟩ := h
  have hlen : lenV (bv s) = (s.length : Int) := len_bv s
  have hno : pieceW num s = none → ∀ k x t c, K [k, x, t, .bool false, c] := by
    intro hn
    rw [hn] at hK
    exact hK
  refine ⟨fun hc => ?_, fun hc => ?_⟩
  · have hc : Value.bool ((strV (bv s)).toList == (strV (bv [])).toList) = .bool true := hc
    rw [seq_bv] at hc
    have hs := bt_of hc
    subst hs
    exact hno rfl _ _ _ _
  · have hc : Value.bool ((strV (bv s)).toList == (strV (bv [])).toList) = .bool false := hc
    rw [seq_bv] at hc
    have hs := bf_of hc
    obtain ⟨k, r, rfl⟩ : ∃ k r, s = k :: r := by
      cases s with
      | nil => exact absurd rfl hs
      | cons k r => exact ⟨k, r, rfl⟩
    have h0l : Value.bool (decide (0 < lenV (bv (k :: r)))) = .bool true := by
      rw [hlen]
      exact bt (by simp only [List.length_cons]; omega)
    refine evs_step (need_step (all_cons rfl (all_cons h0l all_nil)) (evs_nil ?_))
    refine evs_step (need_step (all_cons rfl (all_cons ?_ (all_cons ?_ all_nil))) (call_step rfl ?_))
    · show Value.bool (decide (1 ≤ lenV (bv (k :: r)))) = _
      rw [hlen]
      exact bt (by simp only [List.length_cons]; omega)
    · show Value.bool (decide (lenV (bv (k :: r)) ≤ lenV (bv (k :: r)))) = _
      exact bt (Int.le_refl _)
    · refine ⟨r, 58, ?_, by simp at hl; omega, fun a2 len2 cap2 hl2 => evs_nil ?_⟩
      · show [Value.string ((strV (bv (k :: r))).extract 1 (lenV (bv (k :: r))).toNat), bv [58]] = _
        rw [extract_bv, hlen]
        simp
      subst hl2
      refine ⟨fun vs => ∃ (i : Nat) (a : Option Addr) (cap : Nat) (ns : List Int), vs = [.int .i64 i, .slice a i cap, rowI ns] ∧ i ≤ (cut 58 r).length ∧ numsW num ((cut 58 r).take i) = some ns, fun vs => (cut 58 r).length - (toI (vs.getD 0 undef)).toNat, ?_, ?_⟩
      · exact ⟨0, none, 0, [], rfl, Nat.zero_le _, rfl⟩
      · rintro vs hty ⟨i, a, cap, ns, rfl, hi, hns⟩
        have hnl : ns.length = i := by
          rw [numsW_length hns]; simp; omega
        have hcc := cut_count 58 r
        refine ⟨fun hc => ?_, fun hc => ?_⟩
        · have hlt : i < (cut 58 r).length := by
            have hc : Value.bool (decide ((i : Int) < ((cut 58 r).length : Int))) = .bool true := hc
            have := bt_of hc; omega
          have hx := List.getElem?_eq_getElem hlt
          have hw : IntKind.i64.wrap ((i : Int) + 1) = ((i + 1 : Nat) : Int) := by rw [wrap_in (by simp at hl; omega)]; omega
          have htk : (cut 58 r).take (i + 1) = (cut 58 r).take i ++ [(cut 58 r)[i]] := by rw [List.take_add_one, hx]; rfl
          have hwl := cut_len 58 r _ (List.getElem_mem hlt)
          have hsn := numsW_snoc (nm := num) (w := (cut 58 r)[i]) (ws := (cut 58 r).take i)
          rw [hns] at hsn
          refine evs_step (need_step (all_cons (inb_true (c := rowS (cut 58 r)) (i := i) (n := 1) (by simp [rowS_cells]; omega)) all_nil) (evs_nil ?_))
          refine evs_step (call_step rfl ?_)
          refine ⟨(cut 58 r)[i], ?_, by simp at hl; omega, ?_⟩
          · show [(rowS (cut 58 r)).cells.getD (((i : Int)).toNat * 1 + 0) undef] = _
            rw [Int.toNat_natCast, rowS_get hx]
          cases hv : num (cut 58 r)[i] with
          | none =>
            intro z _
            refine evs_nil (ite_t rfl ?_)
            refine hno ?_ _ _ _ _
            have : numsW num (cut 58 r) = none := numsW_none hv (List.getElem_mem hlt)
            simp only [pieceW, this]
          | some n =>
            rw [hv] at hsn
            have hsn : numsW num ((cut 58 r).take i ++ [(cut 58 r)[i]]) = some (ns ++ [n]) := hsn
            refine evs_nil (ite_f rfl ?_)
            refine evs_step (app_step (xs := intVals ns) (ys := [.int .i64 n]) rfl rfl (by rw [intVals_map]; simp; simp at hl; omega) fun a3 len3 cap3 _ hl3 => evs_nil ?_)
            have hl3 : len3 = i + 1 := by rw [intVals_map] at hl3; simp at hl3; omega
            subst hl3
            refine ⟨⟨i + 1, a3, cap3, ns ++ [n], ?_, hlt, by rw [htk]; exact hsn⟩, ?_⟩
            · rw [← rowI_snoc]
              show [Value.int .i64 (IntKind.i64.wrap ((i : Int) + 1)), .slice a3 (i + 1) cap3, Value.agg (intVals ns ++ [Value.int .i64 n]).toArray] = _
              rw [hw]
            · show (cut 58 r).length - (IntKind.i64.wrap ((i : Int) + 1)).toNat < (cut 58 r).length - ((i : Int)).toNat
              rw [hw, Int.toNat_natCast, Int.toNat_natCast]
              omega
        · have hge : i = (cut 58 r).length := by
            have hc : Value.bool (decide ((i : Int) < ((cut 58 r).length : Int))) = .bool false := hc
            have := bf_of hc; omega
          have hns2 : numsW num (cut 58 r) = some ns := by
            rw [← hns, hge, List.take_length]
          have hdone : ∀ b, okPiece k ns = b → K [u8 k, .slice a i cap, bv (k :: r), .bool b, rowI ns] := by
            intro b hb
            simp only [pieceW, hns2, hb] at hK
            cases b with
            | true => exact hK a i cap hnl.symm
            | false => exact hK _ _ _ _
          clear hK hno hc hty hns hns2 hge hcc hi
          subst hnl
          have hneq : ∀ m : Nat, Value.bool ((ns.length : Int) != (m : Int)) = .bool (decide (ns.length ≠ m)) := by
            intro m
            congr 1
            by_cases e : ns.length = m
            · simp [e]
            · simp [e]; omega
          rcases k_cases k with rfl | rfl | rfl | rfl | rfl | ⟨k1, k2, k3, k4, k5⟩
          · refine ite_f rfl ?_
            by_cases h2 : ns.length = 2
            · obtain ⟨p, q, rfl⟩ := two_list h2
              refine ite_f rfl (evs_step (need_step (all_cons rfl (all_cons rfl all_nil)) (need_step (all_cons rfl (all_cons rfl all_nil)) (call_step rfl ⟨trivial, evs_nil ?_⟩))))
              refine ite_t rfl (ite_t rfl ?_)
              exact hdone (dirOk p q) rfl
            · exact ite_t ((hneq 2).trans (bt h2)) (hdone false (ok_len2 (by simp) h2))
          · refine ite_f rfl ?_
            by_cases h2 : ns.length = 2
            · obtain ⟨p, q, rfl⟩ := two_list h2
              refine ite_f rfl (evs_step (need_step (all_cons rfl (all_cons rfl all_nil)) (need_step (all_cons rfl (all_cons rfl all_nil)) (call_step rfl ⟨trivial, evs_nil ?_⟩))))
              refine ite_f rfl (ite_t rfl ?_)
              exact hdone (dirOk p q) rfl
            · exact ite_t ((hneq 2).trans (bt h2)) (hdone false (ok_len2 (by simp) h2))
          · refine ite_t rfl ?_
            by_cases h3 : ns.length = 3
            · obtain ⟨p, q, t, rfl⟩ := three_list h3
              refine ite_f rfl (evs_step (need_step (all_cons rfl (all_cons rfl all_nil)) (need_step (all_cons rfl (all_cons rfl all_nil)) (call_step rfl ⟨trivial, evs_nil ?_⟩))))
              refine ite_f rfl (ite_f rfl (ite_t rfl ?_))
              refine evs_step (need_step (all_cons (need_if fun _ => rfl) all_nil) (need_step (all_cons (need_if fun _ => rfl) all_nil) (callg_step rfl (fun hg => ⟨trivial, evs_nil ?_⟩) (fun hg => evs_nil ?_))))
              · have hg : dirOk p q = true := hg
                have := hdone (dirOk p q && inRg t 0 3) rfl
                rw [hg, Bool.true_and] at this
                show K [_, _, _, (if toB (Value.bool (dirOk p q)) = true then Value.bool (inRg t 0 3) else Value.bool false), _]
                rw [hg]
                exact this
              · have hg : dirOk p q = false := hg
                have := hdone (dirOk p q && inRg t 0 3) rfl
                rw [hg, Bool.false_and] at this
                show K [_, _, _, (if toB (Value.bool (dirOk p q)) = true then _ else Value.bool false), _]
                rw [hg]
                exact this
            · exact ite_t ((hneq 3).trans (bt h3)) (hdone false (ok_len3 h3))
          · refine ite_f rfl ?_
            by_cases h2 : ns.length = 2
            · obtain ⟨n, d, rfl⟩ := two_list h2
              refine ite_f rfl (evs_step (need_step (all_cons rfl (all_cons rfl all_nil)) (need_step (all_cons rfl (all_cons rfl all_nil)) (call_step rfl ⟨trivial, evs_nil ?_⟩))))
              refine ite_f rfl (ite_f rfl (ite_f rfl (ite_t rfl (ite_t rfl ?_))))
              refine evs_step (need_step (all_cons rfl all_nil) (call_step rfl ⟨trivial, ?_⟩))
              refine need_step (all_cons (need_if fun _ => rfl) (all_cons (need_if fun _ => rfl) all_nil)) (callg_step rfl (fun hg => ⟨trivial, evs_nil ?_⟩) (fun hg => evs_nil ?_))
              · have hg : inRg d 1 100 = true := hg
                have := hdone (inRg d 1 100 && inRg n 0 d) rfl
                rw [hg, Bool.true_and] at this
                show K [_, _, _, (if toB (Value.bool (inRg d 1 100)) = true then Value.bool (inRg n 0 d) else Value.bool false), _]
                rw [hg]
                exact this
              · have hg : inRg d 1 100 = false := hg
                have := hdone (inRg d 1 100 && inRg n 0 d) rfl
                rw [hg, Bool.false_and] at this
                show K [_, _, _, (if toB (Value.bool (inRg d 1 100)) = true then _ else Value.bool false), _]
                rw [hg]
                exact this
            · exact ite_t ((hneq 2).trans (bt h2)) (hdone false (ok_len2 (by simp) h2))
          · refine ite_f rfl ?_
            by_cases h2 : ns.length = 2
            · obtain ⟨n, d, rfl⟩ := two_list h2
              refine ite_f rfl (evs_step (need_step (all_cons rfl (all_cons rfl all_nil)) (need_step (all_cons rfl (all_cons rfl all_nil)) (call_step rfl ⟨trivial, evs_nil ?_⟩))))
              refine ite_f rfl (ite_f rfl (ite_f rfl (ite_f rfl (ite_t rfl ?_))))
              refine evs_step (need_step (all_cons rfl all_nil) (call_step rfl ⟨trivial, ?_⟩))
              refine need_step (all_cons (need_if fun _ => rfl) (all_cons (need_if fun _ => rfl) all_nil)) (callg_step rfl (fun hg => ⟨trivial, evs_nil ?_⟩) (fun hg => evs_nil ?_))
              · have hg : inRg d 1 100 = true := hg
                have := hdone (inRg d 1 100 && inRg n 0 d) rfl
                rw [hg, Bool.true_and] at this
                show K [_, _, _, (if toB (Value.bool (inRg d 1 100)) = true then Value.bool (inRg n 0 d) else Value.bool false), _]
                rw [hg]
                exact this
              · have hg : inRg d 1 100 = false := hg
                have := hdone (inRg d 1 100 && inRg n 0 d) rfl
                rw [hg, Bool.false_and] at this
                show K [_, _, _, (if toB (Value.bool (inRg d 1 100)) = true then _ else Value.bool false), _]
                rw [hg]
                exact this
            · exact ite_t ((hneq 2).trans (bt h2)) (hdone false (ok_len2 (by simp) h2))
          · refine ite_f (beq_f k3) ?_
            by_cases h2 : ns.length = 2
            · obtain ⟨p, q, rfl⟩ := two_list h2
              refine ite_f rfl (evs_step (need_step (all_cons rfl (all_cons rfl all_nil)) (need_step (all_cons rfl (all_cons rfl all_nil)) (call_step rfl ⟨trivial, evs_nil ?_⟩))))
              exact ite_f (beq_f k1) (ite_f (beq_f k2) (ite_f (beq_f k3) (ite_f (beq_f k4) (ite_f (beq_f k5) (hdone false (ok_other k1 k2 k3 k4 k5))))))
            · exact ite_t ((hneq 2).trans (bt h2)) (hdone false (ok_other k1 k2 k3 k4 k5))
def tr_readBench : Tr := (.evs [.app (.val (.agg #[])) 3 (.cells [])] (.ite (.seq ξr20 (.val (.string ⟨#[]⟩))) (.ret [ξr27, ξr5, (.val (.agg #[]))]) (.evs [.call 0 [ξr20, (.val (.string ⟨#[32]⟩))] none 2] (.lp 0 [ξr0, ξr27, (.val (.agg #[]))] [.int .i64, .sl, .rowC [.int .u8, .fat .i64 1, .str]] (.ite (.cmp .lss ξr24 (.len ξr21)) (.evs [.need [(.inb ξr23 ξr24 1)]] (.evs [.call 1 [(.sel ξr23 ξr24 1 0)] none 5] (.ite (.ite (.not ξr30) ξr5 (.cmp .eql (.len ξr25) (.int .i64 12))) ξr45 (.evs [.app ξr29 3 (.cells [ξr34, (.fat ξr35 ξr50), ξr26])] (.next 0 [(.ar .add .i64 ξr24 ξr3), ξr53, ξr54]))))) (.ret [ξr25, ξr5, ξr29]))))))
def Ss_readBench : List Spec := [SP_Split, SP_readPiece]
def SP_readBench : Spec := SP_ib
set_option maxHeartbeats 1000000 in
theorem sat_readBench (P : Program) (ins : List Value) (K : List Value → Prop) (_ : TypedL [.str] ins) (h : SP_readBench ins K) : sat P Ss_readBench tr_readBench ins [] K := by
  obtain ⟨s, rfl, hl, hK⟩ := h
  have hno : benchW s = none → K [.slice none 0 0, .bool false, .agg #[]] := by
    intro hn
    rw [hn] at hK
    exact hK
  refine evs_step (app_empty (by omega) fun a1 cap1 => evs_nil ?_)
  refine ⟨fun hc => ?_, fun hc => ?_⟩
  · have hc : Value.bool ((strV (bv s)).toList == (strV (bv [])).toList) = .bool true := hc
    rw [seq_bv] at hc
    have hs := bt_of hc
    subst hs
    exact hK a1 0 cap1 [] rfl (fun p hp => by cases hp) rfl
  · have hc : Value.bool ((strV (bv s)).toList == (strV (bv [])).toList) = .bool false := hc
    rw [seq_bv] at hc
    have hs := bf_of hc
    clear hc
    refine evs_step (call_step rfl ⟨s, 32, rfl, hl, fun a2 len2 cap2 hl2 => evs_nil ?_⟩)
    subst hl2
    have hcc := cut_count 32 s
    refine ⟨fun vs => ∃ (i : Nat) (a : Option Addr) (cap : Nat) (l : List PV), vs = [.int .i64 i, .slice a i cap, rowB l] ∧ i ≤ (cut 32 s).length ∧ i ≤ 12 ∧ pcsW ((cut 32 s).take i) = some (l.map Prod.fst) ∧ (∀ p ∈ l, SlOk p), fun vs => (cut 32 s).length - (toI (vs.getD 0 undef)).toNat, ?_, ?_⟩
    · exact ⟨0, a1, cap1, [], rfl, Nat.zero_le _, Nat.zero_le _, rfl, fun p hp => by cases hp⟩
    · rintro vs hty ⟨i, a, cap, l, rfl, hi, h12, hps, hok⟩
      have hnl : l.length = i := by
        have := (pcsW_length hps).1
        simp at this; omega
      refine ⟨fun hc => ?_, fun hc => ?_⟩
      · have hlt : i < (cut 32 s).length := by
          have hc : Value.bool (decide ((i : Int) < ((cut 32 s).length : Int))) = .bool true := hc
          have := bt_of hc; omega
        have hx := List.getElem?_eq_getElem hlt
        have hw : IntKind.i64.wrap ((i : Int) + 1) = ((i + 1 : Nat) : Int) := by rw [wrap_in (by omega)]; omega
        have htk : (cut 32 s).take (i + 1) = (cut 32 s).take i ++ [(cut 32 s)[i]] := by rw [List.take_add_one, hx]; rfl
        have hwl := cut_len 32 s _ (List.getElem_mem hlt)
        have hsn := pcsW_snoc (w := (cut 32 s)[i]) (ws := (cut 32 s).take i)
        rw [hps] at hsn
        refine evs_step (need_step (all_cons (inb_true (c := rowS (cut 32 s)) (i := i) (n := 1) (by simp [rowS_cells]; omega)) all_nil) (evs_nil ?_))
        refine evs_step (call_step rfl ?_)
        refine ⟨(cut 32 s)[i], ?_, by omega, ?_⟩
        · show [(rowS (cut 32 s)).cells.getD (((i : Int)).toNat * 1 + 0) undef] = _
          rw [Int.toNat_natCast, rowS_get hx]
        cases hv : pieceW num (cut 32 s)[i] with
        | none =>
          intro k x t c
          refine evs_nil (ite_t rfl ?_)
          refine hno ?_
          have : pcsW (cut 32 s) = none := pcsW_none hv (List.getElem_mem hlt)
          unfold benchW
          rw [if_neg hs, this]
        | some p =>
          obtain ⟨k, ns⟩ := p
          rw [hv] at hsn
          have hsn : pcsW ((cut 32 s).take i ++ [(cut 32 s)[i]]) = some (l.map Prod.fst ++ [⟨k, ns, (cut 32 s)[i]⟩]) := hsn
          intro a3 len3 cap3 hl3
          subst hl3
          refine evs_nil ?_
          by_cases hfull : i = 12
          · refine ite_t ?_ (hno ?_)
            · show (if toB (Value.bool (!true)) = true then Value.bool true else Value.bool ((i : Int) == 12)) = _
              rw [hfull]; rfl
            · unfold benchW
              rw [if_neg hs]
              cases hq : pcsW (cut 32 s) with
              | none => rfl
              | some q =>
                have := (pcsW_length hq).1
                dsimp only
                rw [if_neg (by omega)]
          · refine ite_f ?_ ?_
            · show (if toB (Value.bool (!true)) = true then Value.bool true else Value.bool ((i : Int) == 12)) = _
              rw [if_neg (by simp)]
              congr 1
              rw [beq_eq_false_iff_ne]
              omega
            refine evs_step (app_step (xs := l.flatMap cB) (ys := cB (⟨k, ns, (cut 32 s)[i]⟩, .slice a3 ns.length cap3)) rfl rfl (by rw [flat_length (n := 3) (fun _ => rfl)]; simp [cB]; omega) fun a4 len4 cap4 _ hl4 => evs_nil ?_)
            have hl4 : len4 = i + 1 := by rw [flat_length (n := 3) (fun _ => rfl)] at hl4; simp [cB] at hl4; omega
            subst hl4
            refine ⟨⟨i + 1, a4, cap4, l ++ [(⟨k, ns, (cut 32 s)[i]⟩, .slice a3 ns.length cap3)], ?_, hlt, by omega, by rw [htk, hsn]; simp, fun p hp => ?_⟩, ?_⟩
            · rw [← rowB_snoc]
              show [Value.int .i64 (IntKind.i64.wrap ((i : Int) + 1)), .slice a4 (i + 1) cap4, Value.agg (l.flatMap cB ++ cB (⟨k, ns, (cut 32 s)[i]⟩, .slice a3 ns.length cap3)).toArray] = _
              rw [hw]
            · rcases List.mem_append.1 hp with hp | hp
              · exact hok p hp
              · rw [List.mem_singleton.1 hp]
                exact ⟨a3, cap3, rfl⟩
            · show (cut 32 s).length - (IntKind.i64.wrap ((i : Int) + 1)).toNat < (cut 32 s).length - ((i : Int)).toNat
              rw [hw, Int.toNat_natCast, Int.toNat_natCast]
              omega
      · have hge : i = (cut 32 s).length := by
          have hc : Value.bool (decide ((i : Int) < ((cut 32 s).length : Int))) = .bool false := hc
          have := bf_of hc; omega
        rw [hge, List.take_length] at hps
        unfold benchW at hK
        rw [if_neg hs, hps] at hK
        dsimp only at hK
        rw [List.length_map, hnl, if_pos h12] at hK
        exact hK a i cap l rfl hok (by simp [hnl])
def tr_ofG : Tr := (.evs [.call 0 [ξr76, ξr27, ξr22] none 3, .need [(.inb ξr21 ξr23 1)]] (.ret [(.sel ξr21 ξr23 1 0), ξr24, ξr25]))
def Ss_ofG (cb : CodeB) : List Spec := [(F_pickC cb).spec]
theorem pick_use {cb : CodeB} (hk : CodeOk cb) {m : Int} (hm : 1 ≤ m) (hm2 : m ≤ 1000) {b : Value} {z : Int} (hb : goodSl cb b) (h0 : 0 ≤ z) (hz : z ≤ 1000000000) {K : List Value → Prop} (hK : ∀ x, 0 ≤ x → x ≤ m - 1 → K [.int .i64 x, b, .int .i64 (z + 1)]) : (G_pick cb).spec [.int .i64 m, b, .int .i64 z] K := by
  have hn : I64 m := by unfold I64; omega
  obtain ⟨_, x, q2, q3, q4⟩ := pick_facts hk hb hn ⟨h0, hz⟩
  refine ⟨⟨hb, ⟨m, rfl, hn⟩, z, rfl, h0, hz⟩, ?_⟩
  have e : (G_pick cb).out [.int .i64 m, b, .int .i64 z] = [.int .i64 x, b, .int .i64 (z + 1)] := q2
  rw [e]
  exact hK x q3 (by omega)
theorem pk_step {P : Program} {cb : CodeB} (hk : CodeOk cb) {specs : List Spec} {j : Nat} (hs : specs[j]? = some (G_pick cb).spec) {mE bE zE : Ex} {r : List Evn} {env : List Value} {K : List Value → Prop} (m : Int) {b : Value} {z : Int}
    (em : ev env mE = .int .i64 m) (eb : ev env bE = b) (ez : ev env zE = .int .i64 z) (hm : 1 ≤ m ∧ m ≤ 1000) (hb : goodSl cb b) (hz : 0 ≤ z ∧ z ≤ 1000000)
    (h : ∀ x, 0 ≤ x → x ≤ m - 1 → evSat P specs r (env ++ [.int .i64 x, b, .int .i64 (z + 1)]) K) : evSat P specs (.call j [mE, bE, zE] none 3 :: r) env K := by
  refine call_step hs ?_
  show (G_pick cb).spec [ev env mE, ev env bE, ev env zE] _
  rw [em, eb, ez]
  exact pick_use hk hm.1 hm.2 hb hz.1 (by omega) h
def SP_ofG (cb : CodeB) : Spec := ofSpecG cb
theorem sat_ofG (P : Program) (cb : CodeB) (hk : CodeOk cb) (ins : List Value) (K : List Value → Prop) (_ : TypedL [.sl, .sl, .int .i64, .rowC [.str]] ins) (h : SP_ofG cb ins K) : sat P (Ss_ofG cb) tr_ofG ins [] K := by
  obtain ⟨q, b, z, c0, c1, c2, c3, c4, c5, c6, c7, rfl, hb, h0, hz, hc, hK⟩ := h
  refine evs_step ?_
  refine pk_step hk rfl 8 rfl rfl rfl (by omega) hb (by omega) fun x x0 x1 => ?_
  obtain ⟨n, rfl⟩ := Int.eq_ofNat_of_zero_le x0
  have hn : n < 8 := by omega
  refine need_step (all_cons (inb_true (c := .agg #[c0, c1, c2, c3, c4, c5, c6, c7]) (i := n) (n := 1) (by show (n + 1) * 1 ≤ 8; omega)) all_nil) (evs_nil ?_)
  refine hK _ _ _ ?_ hb (by omega) (by omega)
  have e : n = 0 ∨ n = 1 ∨ n = 2 ∨ n = 3 ∨ n = 4 ∨ n = 5 ∨ n = 6 ∨ n = 7 := by omega
  rcases e with rfl | rfl | rfl | rfl | rfl | rfl | rfl | rfl
  · exact hc c0 (by simp)
  · exact hc c1 (by simp)
  · exact hc c2 (by simp)
  · exact hc c3 (by simp)
  · exact hc c4 (by simp)
  · exact hc c5 (by simp)
  · exact hc c6 (by simp)
  · exact hc c7 (by simp)
def SP_ofC (cb : CodeB) : Spec := ofSpec cb
def tr_l92Piece : Tr := (.evs [.call 0 [(.int .i64 5), ξr27, ξr22] none 3, .call 1 [(.ar .sub .i64 ξr21 ξr77)] none 1] (.evs [.call 0 [ξr77, ξr23, ξr24] none 3, .call 1 [(.ar .add .i64 ξr3 ξr29)] none 1] (.evs [.call 0 [(.int .i64 5), ξr34, ξr35] none 3] (.ite (.cmp .eql ξr30 ξr0) (.evs [.need [(.cmp .leq (.len (.val (.string ⟨#[114]⟩))) ξr102)], .need [(.cmp .leq (.len (.scat (.val (.string ⟨#[114]⟩)) ξr25)) (.ar .sub .i64 ξr8 (.len (.val (.string ⟨#[58]⟩)))))], .need [(.cmp .leq (.len (.scat (.scat (.val (.string ⟨#[114]⟩)) ξr25) (.val (.string ⟨#[58]⟩)))) ξr78)]] (.ret [(.scat (.scat (.scat (.val (.string ⟨#[114]⟩)) ξr25) (.val (.string ⟨#[58]⟩))) ξr26), ξr50, ξr53])) (.ite (.cmp .eql ξr30 ξr3) (.ite (.cmp .eql ξr30 ξr3) (.evs [.need [(.cmp .leq (.len (.val (.string ⟨#[119]⟩))) ξr102)], .need [(.cmp .leq (.len (.scat (.val (.string ⟨#[119]⟩)) ξr25)) (.ar .sub .i64 ξr8 (.len (.val (.string ⟨#[58]⟩)))))], .need [(.cmp .leq (.len (.scat (.scat (.val (.string ⟨#[119]⟩)) ξr25) (.val (.string ⟨#[58]⟩)))) ξr78)], .need [(.cmp .leq (.len (.scat (.scat (.scat (.val (.string ⟨#[119]⟩)) ξr25) (.val (.string ⟨#[58]⟩))) ξr26)) (.ar .sub .i64 ξr8 (.len (.val (.string ⟨#[58]⟩)))))], .call 0 [(.int .i64 4), ξr50, ξr53] none 3, .call 1 [ξr54] none 1, .need [(.cmp .leq (.len (.scat (.scat (.scat (.scat (.val (.string ⟨#[119]⟩)) ξr25) (.val (.string ⟨#[58]⟩))) ξr26) (.val (.string ⟨#[58]⟩)))) (.ar .sub .i64 ξr8 (.len ξr68)))]] (.ret [(.scat (.scat (.scat (.scat (.scat (.val (.string ⟨#[119]⟩)) ξr25) (.val (.string ⟨#[58]⟩))) ξr26) (.val (.string ⟨#[58]⟩))) ξr68), ξr58, ξr60])) (.ite (.cmp .eql ξr30 (.int .i64 3)) (.evs [.need [(.cmp .leq (.len (.val (.string ⟨#[102]⟩))) ξr102)], .need [(.cmp .leq (.len (.scat (.val (.string ⟨#[102]⟩)) ξr25)) (.ar .sub .i64 ξr8 (.len (.val (.string ⟨#[58]⟩)))))], .need [(.cmp .leq (.len (.scat (.scat (.val (.string ⟨#[102]⟩)) ξr25) (.val (.string ⟨#[58]⟩)))) ξr78)]] (.ret [(.scat (.scat (.scat (.val (.string ⟨#[102]⟩)) ξr25) (.val (.string ⟨#[58]⟩))) ξr26), ξr50, ξr53])) (.evs [.call 0 [(.int .i64 4), ξr50, ξr53] none 3] (.evs [.call 0 [ξr77, ξr58, ξr60] (some ξr20) 3] (.ite (.ite ξr20 (.cmp .eql ξr68 ξr0) ξr2) (.evs [.call 0 ξr38 none 3, .call 1 [ξr69] none 1, .need [(.cmp .leq (.len (.val (.string ⟨#[100]⟩))) (.ar .sub .i64 ξr8 (.len ξr59)))], .need [(.cmp .leq (.len (.scat (.val (.string ⟨#[100]⟩)) ξr59)) (.ar .sub .i64 ξr8 (.len (.val (.string ⟨#[58]⟩)))))], .call 1 [(.ar .add .i64 ξr3 ξr54)] none 1, .need [(.cmp .leq (.len (.scat (.scat (.val (.string ⟨#[100]⟩)) ξr59) (.val (.string ⟨#[58]⟩)))) (.ar .sub .i64 ξr8 (.len ξr67)))]] (.ret [(.scat (.scat (.scat (.val (.string ⟨#[100]⟩)) ξr59) (.val (.string ⟨#[58]⟩))) ξr67), ξr87, ξr82])) (.evs [.call 0 ξr38 none 3, .call 1 [ξr69] none 1, .need [(.cmp .leq (.len (.val (.string ⟨#[97]⟩))) (.ar .sub .i64 ξr8 (.len ξr59)))], .need [(.cmp .leq (.len (.scat (.val (.string ⟨#[97]⟩)) ξr59)) (.ar .sub .i64 ξr8 (.len (.val (.string ⟨#[58]⟩)))))], .call 1 [(.ar .add .i64 ξr3 ξr54)] none 1, .need [(.cmp .leq (.len (.scat (.scat (.val (.string ⟨#[97]⟩)) ξr59) (.val (.string ⟨#[58]⟩)))) (.ar .sub .i64 ξr8 (.len ξr67)))]] (.ret [(.scat (.scat (.scat (.val (.string ⟨#[97]⟩)) ξr59) (.val (.string ⟨#[58]⟩))) ξr67), ξr87, ξr82]))))))) (.ite (.cmp .eql ξr30 ξr77) (.evs [.need [(.cmp .leq (.len (.val (.string ⟨#[119]⟩))) ξr102)], .need [(.cmp .leq (.len (.scat (.val (.string ⟨#[119]⟩)) ξr25)) (.ar .sub .i64 ξr8 (.len (.val (.string ⟨#[58]⟩)))))], .need [(.cmp .leq (.len (.scat (.scat (.val (.string ⟨#[119]⟩)) ξr25) (.val (.string ⟨#[58]⟩)))) ξr78)], .need [(.cmp .leq (.len (.scat (.scat (.scat (.val (.string ⟨#[119]⟩)) ξr25) (.val (.string ⟨#[58]⟩))) ξr26)) (.ar .sub .i64 ξr8 (.len (.val (.string ⟨#[58]⟩)))))], .call 0 [(.int .i64 4), ξr50, ξr53] none 3, .call 1 [ξr54] none 1, .need [(.cmp .leq (.len (.scat (.scat (.scat (.scat (.val (.string ⟨#[119]⟩)) ξr25) (.val (.string ⟨#[58]⟩))) ξr26) (.val (.string ⟨#[58]⟩)))) (.ar .sub .i64 ξr8 (.len ξr68)))]] (.ret [(.scat (.scat (.scat (.scat (.scat (.val (.string ⟨#[119]⟩)) ξr25) (.val (.string ⟨#[58]⟩))) ξr26) (.val (.string ⟨#[58]⟩))) ξr68), ξr58, ξr60])) (.ite (.cmp .eql ξr30 (.int .i64 3)) (.evs [.need [(.cmp .leq (.len (.val (.string ⟨#[102]⟩))) ξr102)], .need [(.cmp .leq (.len (.scat (.val (.string ⟨#[102]⟩)) ξr25)) (.ar .sub .i64 ξr8 (.len (.val (.string ⟨#[58]⟩)))))], .need [(.cmp .leq (.len (.scat (.scat (.val (.string ⟨#[102]⟩)) ξr25) (.val (.string ⟨#[58]⟩)))) ξr78)]] (.ret [(.scat (.scat (.scat (.val (.string ⟨#[102]⟩)) ξr25) (.val (.string ⟨#[58]⟩))) ξr26), ξr50, ξr53])) (.evs [.call 0 [(.int .i64 4), ξr50, ξr53] none 3] (.evs [.call 0 [ξr77, ξr58, ξr60] (some ξr20) 3] (.ite (.ite ξr20 (.cmp .eql ξr68 ξr0) ξr2) (.evs [.call 0 ξr38 none 3, .call 1 [ξr69] none 1, .need [(.cmp .leq (.len (.val (.string ⟨#[100]⟩))) (.ar .sub .i64 ξr8 (.len ξr59)))], .need [(.cmp .leq (.len (.scat (.val (.string ⟨#[100]⟩)) ξr59)) (.ar .sub .i64 ξr8 (.len (.val (.string ⟨#[58]⟩)))))], .call 1 [(.ar .add .i64 ξr3 ξr54)] none 1, .need [(.cmp .leq (.len (.scat (.scat (.val (.string ⟨#[100]⟩)) ξr59) (.val (.string ⟨#[58]⟩)))) (.ar .sub .i64 ξr8 (.len ξr67)))]] (.ret [(.scat (.scat (.scat (.val (.string ⟨#[100]⟩)) ξr59) (.val (.string ⟨#[58]⟩))) ξr67), ξr87, ξr82])) (.evs [.call 0 ξr38 none 3, .call 1 [ξr69] none 1, .need [(.cmp .leq (.len (.val (.string ⟨#[97]⟩))) (.ar .sub .i64 ξr8 (.len ξr59)))], .need [(.cmp .leq (.len (.scat (.val (.string ⟨#[97]⟩)) ξr59)) (.ar .sub .i64 ξr8 (.len (.val (.string ⟨#[58]⟩)))))], .call 1 [(.ar .add .i64 ξr3 ξr54)] none 1, .need [(.cmp .leq (.len (.scat (.scat (.val (.string ⟨#[97]⟩)) ξr59) (.val (.string ⟨#[58]⟩)))) (.ar .sub .i64 ξr8 (.len ξr67)))]] (.ret [(.scat (.scat (.scat (.val (.string ⟨#[97]⟩)) ξr59) (.val (.string ⟨#[58]⟩))) ξr67), ξr87, ξr82]))))))))))))
def Ss_l92Piece (cb : CodeB) : List Spec := [(F_pickC cb).spec, SP_l6Dec]
def SP_l92Piece (cb : CodeB) : Spec := drawT cb 15 10 200000
set_option maxHeartbeats 2000000 in
theorem sat_l92Piece (P : Program) (cb : CodeB) (hk : CodeOk cb) (ins : List Value) (K : List Value → Prop) (_ : TypedL [.bool, .sl, .int .i64] ins) (h : SP_l92Piece cb ins K) : sat P (Ss_l92Piece cb) tr_l92Piece ins [] K := by
  obtain ⟨f, b, z, rfl, hb, h0, hz, hK⟩ := h
  cases f with
  | false =>
    refine evs_step ?_
    refine pk_step hk rfl 5 rfl rfl rfl (by omega) hb (by omega) fun x1 x1l x1h => ?_
    refine dec_step1 rfl (x1 - 2) (ar_sub rfl rfl (by omega)) (by omega) fun v2 hv2 => ?_
    refine evs_nil ?_
    refine evs_step ?_
    refine pk_step hk rfl 2 rfl rfl rfl (by omega) hb (by omega) fun x3 x3l x3h => ?_
    refine dec_step1 rfl (1 + x3) (ar_add rfl rfl (by omega)) (by omega) fun v4 hv4 => ?_
    refine evs_nil ?_
    refine evs_step ?_
    refine pk_step hk rfl 5 rfl rfl rfl (by omega) hb (by omega) fun x5 x5l x5h => ?_
    refine evs_nil ?_
    refine ⟨fun _ => ?_, fun _ => ?_⟩
    · refine evs_step ?_
      refine needs_sh (sh_c [114]) hv2 (by decide) ?_
      refine needs_sh (sh_scat (sh_c [114]) hv2) (sh_c [58]) (by decide) ?_
      refine needs_sh (sh_scat (sh_scat (sh_c [114]) hv2) (sh_c [58])) hv4 (by decide) ?_
      refine evs_nil ?_
      exact hK _ _ _ (sh_mono (sh_scat (sh_scat (sh_scat (sh_c [114]) hv2) (sh_c [58])) hv4) (by decide)) hb (by omega) (by omega)
    · refine ⟨fun _ => ?_, fun _ => ?_⟩
      · refine ⟨fun _ => ?_, fun _ => ?_⟩
        · refine evs_step ?_
          refine needs_sh (sh_c [119]) hv2 (by decide) ?_
          refine needs_sh (sh_scat (sh_c [119]) hv2) (sh_c [58]) (by decide) ?_
          refine needs_sh (sh_scat (sh_scat (sh_c [119]) hv2) (sh_c [58])) hv4 (by decide) ?_
          refine needs_sh (sh_scat (sh_scat (sh_scat (sh_c [119]) hv2) (sh_c [58])) hv4) (sh_c [58]) (by decide) ?_
          refine pk_step hk rfl 4 rfl rfl rfl (by omega) hb (by omega) fun x6 x6l x6h => ?_
          refine dec_step1 rfl x6 rfl (by omega) fun v7 hv7 => ?_
          refine needs_sh (sh_scat (sh_scat (sh_scat (sh_scat (sh_c [119]) hv2) (sh_c [58])) hv4) (sh_c [58])) hv7 (by decide) ?_
          refine evs_nil ?_
          exact hK _ _ _ (sh_mono (sh_scat (sh_scat (sh_scat (sh_scat (sh_scat (sh_c [119]) hv2) (sh_c [58])) hv4) (sh_c [58])) hv7) (by decide)) hb (by omega) (by omega)
        · refine ⟨fun _ => ?_, fun _ => ?_⟩
          · refine evs_step ?_
            refine needs_sh (sh_c [102]) hv2 (by decide) ?_
            refine needs_sh (sh_scat (sh_c [102]) hv2) (sh_c [58]) (by decide) ?_
            refine needs_sh (sh_scat (sh_scat (sh_c [102]) hv2) (sh_c [58])) hv4 (by decide) ?_
            refine evs_nil ?_
            exact hK _ _ _ (sh_mono (sh_scat (sh_scat (sh_scat (sh_c [102]) hv2) (sh_c [58])) hv4) (by decide)) hb (by omega) (by omega)
          · refine evs_step ?_
            refine pk_step hk rfl 4 rfl rfl rfl (by omega) hb (by omega) fun x8 x8l x8h => ?_
            refine evs_nil ?_
            refine evs_step ?_
            refine callg_step rfl (fun h => by cases h) fun _ => ?_
            refine evs_nil ?_
            refine ⟨fun _ => ?_, fun _ => ?_⟩
            · refine evs_step ?_
              refine pk_step hk rfl ((1 + x8) + 1) (ar_add (ar_add rfl rfl (by omega)) rfl (by omega)) rfl rfl (by omega) hb (by omega) fun x9 x9l x9h => ?_
              refine dec_step1 rfl x9 rfl (by omega) fun v10 hv10 => ?_
              refine needs_sh (sh_c [100]) hv10 (by decide) ?_
              refine needs_sh (sh_scat (sh_c [100]) hv10) (sh_c [58]) (by decide) ?_
              refine dec_step1 rfl (1 + x8) (ar_add rfl rfl (by omega)) (by omega) fun v11 hv11 => ?_
              refine needs_sh (sh_scat (sh_scat (sh_c [100]) hv10) (sh_c [58])) hv11 (by decide) ?_
              refine evs_nil ?_
              exact hK _ _ _ (sh_mono (sh_scat (sh_scat (sh_scat (sh_c [100]) hv10) (sh_c [58])) hv11) (by decide)) hb (by omega) (by omega)
            · refine evs_step ?_
              refine pk_step hk rfl ((1 + x8) + 1) (ar_add (ar_add rfl rfl (by omega)) rfl (by omega)) rfl rfl (by omega) hb (by omega) fun x12 x12l x12h => ?_
              refine dec_step1 rfl x12 rfl (by omega) fun v13 hv13 => ?_
              refine needs_sh (sh_c [97]) hv13 (by decide) ?_
              refine needs_sh (sh_scat (sh_c [97]) hv13) (sh_c [58]) (by decide) ?_
              refine dec_step1 rfl (1 + x8) (ar_add rfl rfl (by omega)) (by omega) fun v14 hv14 => ?_
              refine needs_sh (sh_scat (sh_scat (sh_c [97]) hv13) (sh_c [58])) hv14 (by decide) ?_
              refine evs_nil ?_
              exact hK _ _ _ (sh_mono (sh_scat (sh_scat (sh_scat (sh_c [97]) hv13) (sh_c [58])) hv14) (by decide)) hb (by omega) (by omega)
      · refine ⟨fun _ => ?_, fun _ => ?_⟩
        · refine evs_step ?_
          refine needs_sh (sh_c [119]) hv2 (by decide) ?_
          refine needs_sh (sh_scat (sh_c [119]) hv2) (sh_c [58]) (by decide) ?_
          refine needs_sh (sh_scat (sh_scat (sh_c [119]) hv2) (sh_c [58])) hv4 (by decide) ?_
          refine needs_sh (sh_scat (sh_scat (sh_scat (sh_c [119]) hv2) (sh_c [58])) hv4) (sh_c [58]) (by decide) ?_
          refine pk_step hk rfl 4 rfl rfl rfl (by omega) hb (by omega) fun x15 x15l x15h => ?_
          refine dec_step1 rfl x15 rfl (by omega) fun v16 hv16 => ?_
          refine needs_sh (sh_scat (sh_scat (sh_scat (sh_scat (sh_c [119]) hv2) (sh_c [58])) hv4) (sh_c [58])) hv16 (by decide) ?_
          refine evs_nil ?_
          exact hK _ _ _ (sh_mono (sh_scat (sh_scat (sh_scat (sh_scat (sh_scat (sh_c [119]) hv2) (sh_c [58])) hv4) (sh_c [58])) hv16) (by decide)) hb (by omega) (by omega)
        · refine ⟨fun _ => ?_, fun _ => ?_⟩
          · refine evs_step ?_
            refine needs_sh (sh_c [102]) hv2 (by decide) ?_
            refine needs_sh (sh_scat (sh_c [102]) hv2) (sh_c [58]) (by decide) ?_
            refine needs_sh (sh_scat (sh_scat (sh_c [102]) hv2) (sh_c [58])) hv4 (by decide) ?_
            refine evs_nil ?_
            exact hK _ _ _ (sh_mono (sh_scat (sh_scat (sh_scat (sh_c [102]) hv2) (sh_c [58])) hv4) (by decide)) hb (by omega) (by omega)
          · refine evs_step ?_
            refine pk_step hk rfl 4 rfl rfl rfl (by omega) hb (by omega) fun x17 x17l x17h => ?_
            refine evs_nil ?_
            refine evs_step ?_
            refine callg_step rfl (fun h => by cases h) fun _ => ?_
            refine evs_nil ?_
            refine ⟨fun _ => ?_, fun _ => ?_⟩
            · refine evs_step ?_
              refine pk_step hk rfl ((1 + x17) + 1) (ar_add (ar_add rfl rfl (by omega)) rfl (by omega)) rfl rfl (by omega) hb (by omega) fun x18 x18l x18h => ?_
              refine dec_step1 rfl x18 rfl (by omega) fun v19 hv19 => ?_
              refine needs_sh (sh_c [100]) hv19 (by decide) ?_
              refine needs_sh (sh_scat (sh_c [100]) hv19) (sh_c [58]) (by decide) ?_
              refine dec_step1 rfl (1 + x17) (ar_add rfl rfl (by omega)) (by omega) fun v20 hv20 => ?_
              refine needs_sh (sh_scat (sh_scat (sh_c [100]) hv19) (sh_c [58])) hv20 (by decide) ?_
              refine evs_nil ?_
              exact hK _ _ _ (sh_mono (sh_scat (sh_scat (sh_scat (sh_c [100]) hv19) (sh_c [58])) hv20) (by decide)) hb (by omega) (by omega)
            · refine evs_step ?_
              refine pk_step hk rfl ((1 + x17) + 1) (ar_add (ar_add rfl rfl (by omega)) rfl (by omega)) rfl rfl (by omega) hb (by omega) fun x21 x21l x21h => ?_
              refine dec_step1 rfl x21 rfl (by omega) fun v22 hv22 => ?_
              refine needs_sh (sh_c [97]) hv22 (by decide) ?_
              refine needs_sh (sh_scat (sh_c [97]) hv22) (sh_c [58]) (by decide) ?_
              refine dec_step1 rfl (1 + x17) (ar_add rfl rfl (by omega)) (by omega) fun v23 hv23 => ?_
              refine needs_sh (sh_scat (sh_scat (sh_c [97]) hv22) (sh_c [58])) hv23 (by decide) ?_
              refine evs_nil ?_
              exact hK _ _ _ (sh_mono (sh_scat (sh_scat (sh_scat (sh_c [97]) hv22) (sh_c [58])) hv23) (by decide)) hb (by omega) (by omega)
  | true =>
    refine evs_step ?_
    refine pk_step hk rfl 5 rfl rfl rfl (by omega) hb (by omega) fun x1 x1l x1h => ?_
    refine dec_step1 rfl (x1 - 2) (ar_sub rfl rfl (by omega)) (by omega) fun v2 hv2 => ?_
    refine evs_nil ?_
    refine evs_step ?_
    refine pk_step hk rfl 2 rfl rfl rfl (by omega) hb (by omega) fun x3 x3l x3h => ?_
    refine dec_step1 rfl (1 + x3) (ar_add rfl rfl (by omega)) (by omega) fun v4 hv4 => ?_
    refine evs_nil ?_
    refine evs_step ?_
    refine pk_step hk rfl 5 rfl rfl rfl (by omega) hb (by omega) fun x5 x5l x5h => ?_
    refine evs_nil ?_
    refine ⟨fun _ => ?_, fun _ => ?_⟩
    · refine evs_step ?_
      refine needs_sh (sh_c [114]) hv2 (by decide) ?_
      refine needs_sh (sh_scat (sh_c [114]) hv2) (sh_c [58]) (by decide) ?_
      refine needs_sh (sh_scat (sh_scat (sh_c [114]) hv2) (sh_c [58])) hv4 (by decide) ?_
      refine evs_nil ?_
      exact hK _ _ _ (sh_mono (sh_scat (sh_scat (sh_scat (sh_c [114]) hv2) (sh_c [58])) hv4) (by decide)) hb (by omega) (by omega)
    · refine ⟨fun _ => ?_, fun _ => ?_⟩
      · refine ⟨fun _ => ?_, fun _ => ?_⟩
        · refine evs_step ?_
          refine needs_sh (sh_c [119]) hv2 (by decide) ?_
          refine needs_sh (sh_scat (sh_c [119]) hv2) (sh_c [58]) (by decide) ?_
          refine needs_sh (sh_scat (sh_scat (sh_c [119]) hv2) (sh_c [58])) hv4 (by decide) ?_
          refine needs_sh (sh_scat (sh_scat (sh_scat (sh_c [119]) hv2) (sh_c [58])) hv4) (sh_c [58]) (by decide) ?_
          refine pk_step hk rfl 4 rfl rfl rfl (by omega) hb (by omega) fun x6 x6l x6h => ?_
          refine dec_step1 rfl x6 rfl (by omega) fun v7 hv7 => ?_
          refine needs_sh (sh_scat (sh_scat (sh_scat (sh_scat (sh_c [119]) hv2) (sh_c [58])) hv4) (sh_c [58])) hv7 (by decide) ?_
          refine evs_nil ?_
          exact hK _ _ _ (sh_mono (sh_scat (sh_scat (sh_scat (sh_scat (sh_scat (sh_c [119]) hv2) (sh_c [58])) hv4) (sh_c [58])) hv7) (by decide)) hb (by omega) (by omega)
        · refine ⟨fun _ => ?_, fun _ => ?_⟩
          · refine evs_step ?_
            refine needs_sh (sh_c [102]) hv2 (by decide) ?_
            refine needs_sh (sh_scat (sh_c [102]) hv2) (sh_c [58]) (by decide) ?_
            refine needs_sh (sh_scat (sh_scat (sh_c [102]) hv2) (sh_c [58])) hv4 (by decide) ?_
            refine evs_nil ?_
            exact hK _ _ _ (sh_mono (sh_scat (sh_scat (sh_scat (sh_c [102]) hv2) (sh_c [58])) hv4) (by decide)) hb (by omega) (by omega)
          · refine evs_step ?_
            refine pk_step hk rfl 4 rfl rfl rfl (by omega) hb (by omega) fun x8 x8l x8h => ?_
            refine evs_nil ?_
            refine evs_step ?_
            refine callg_step rfl (fun _ => ?_) (fun h => by cases h)
            refine pick_use hk (m := 2) (by omega) (by omega) hb (by omega) (by omega) fun x9 x9l x9h => ?_
            refine evs_nil ?_
            refine ⟨fun _ => ?_, fun _ => ?_⟩
            · refine evs_step ?_
              refine pk_step hk rfl ((1 + x8) + 1) (ar_add (ar_add rfl rfl (by omega)) rfl (by omega)) rfl rfl (by omega) hb (by omega) fun x10 x10l x10h => ?_
              refine dec_step1 rfl x10 rfl (by omega) fun v11 hv11 => ?_
              refine needs_sh (sh_c [100]) hv11 (by decide) ?_
              refine needs_sh (sh_scat (sh_c [100]) hv11) (sh_c [58]) (by decide) ?_
              refine dec_step1 rfl (1 + x8) (ar_add rfl rfl (by omega)) (by omega) fun v12 hv12 => ?_
              refine needs_sh (sh_scat (sh_scat (sh_c [100]) hv11) (sh_c [58])) hv12 (by decide) ?_
              refine evs_nil ?_
              exact hK _ _ _ (sh_mono (sh_scat (sh_scat (sh_scat (sh_c [100]) hv11) (sh_c [58])) hv12) (by decide)) hb (by omega) (by omega)
            · refine evs_step ?_
              refine pk_step hk rfl ((1 + x8) + 1) (ar_add (ar_add rfl rfl (by omega)) rfl (by omega)) rfl rfl (by omega) hb (by omega) fun x13 x13l x13h => ?_
              refine dec_step1 rfl x13 rfl (by omega) fun v14 hv14 => ?_
              refine needs_sh (sh_c [97]) hv14 (by decide) ?_
              refine needs_sh (sh_scat (sh_c [97]) hv14) (sh_c [58]) (by decide) ?_
              refine dec_step1 rfl (1 + x8) (ar_add rfl rfl (by omega)) (by omega) fun v15 hv15 => ?_
              refine needs_sh (sh_scat (sh_scat (sh_c [97]) hv14) (sh_c [58])) hv15 (by decide) ?_
              refine evs_nil ?_
              exact hK _ _ _ (sh_mono (sh_scat (sh_scat (sh_scat (sh_c [97]) hv14) (sh_c [58])) hv15) (by decide)) hb (by omega) (by omega)
      · refine ⟨fun _ => ?_, fun _ => ?_⟩
        · refine evs_step ?_
          refine needs_sh (sh_c [119]) hv2 (by decide) ?_
          refine needs_sh (sh_scat (sh_c [119]) hv2) (sh_c [58]) (by decide) ?_
          refine needs_sh (sh_scat (sh_scat (sh_c [119]) hv2) (sh_c [58])) hv4 (by decide) ?_
          refine needs_sh (sh_scat (sh_scat (sh_scat (sh_c [119]) hv2) (sh_c [58])) hv4) (sh_c [58]) (by decide) ?_
          refine pk_step hk rfl 4 rfl rfl rfl (by omega) hb (by omega) fun x16 x16l x16h => ?_
          refine dec_step1 rfl x16 rfl (by omega) fun v17 hv17 => ?_
          refine needs_sh (sh_scat (sh_scat (sh_scat (sh_scat (sh_c [119]) hv2) (sh_c [58])) hv4) (sh_c [58])) hv17 (by decide) ?_
          refine evs_nil ?_
          exact hK _ _ _ (sh_mono (sh_scat (sh_scat (sh_scat (sh_scat (sh_scat (sh_c [119]) hv2) (sh_c [58])) hv4) (sh_c [58])) hv17) (by decide)) hb (by omega) (by omega)
        · refine ⟨fun _ => ?_, fun _ => ?_⟩
          · refine evs_step ?_
            refine needs_sh (sh_c [102]) hv2 (by decide) ?_
            refine needs_sh (sh_scat (sh_c [102]) hv2) (sh_c [58]) (by decide) ?_
            refine needs_sh (sh_scat (sh_scat (sh_c [102]) hv2) (sh_c [58])) hv4 (by decide) ?_
            refine evs_nil ?_
            exact hK _ _ _ (sh_mono (sh_scat (sh_scat (sh_scat (sh_c [102]) hv2) (sh_c [58])) hv4) (by decide)) hb (by omega) (by omega)
          · refine evs_step ?_
            refine pk_step hk rfl 4 rfl rfl rfl (by omega) hb (by omega) fun x18 x18l x18h => ?_
            refine evs_nil ?_
            refine evs_step ?_
            refine callg_step rfl (fun _ => ?_) (fun h => by cases h)
            refine pick_use hk (m := 2) (by omega) (by omega) hb (by omega) (by omega) fun x19 x19l x19h => ?_
            refine evs_nil ?_
            refine ⟨fun _ => ?_, fun _ => ?_⟩
            · refine evs_step ?_
              refine pk_step hk rfl ((1 + x18) + 1) (ar_add (ar_add rfl rfl (by omega)) rfl (by omega)) rfl rfl (by omega) hb (by omega) fun x20 x20l x20h => ?_
              refine dec_step1 rfl x20 rfl (by omega) fun v21 hv21 => ?_
              refine needs_sh (sh_c [100]) hv21 (by decide) ?_
              refine needs_sh (sh_scat (sh_c [100]) hv21) (sh_c [58]) (by decide) ?_
              refine dec_step1 rfl (1 + x18) (ar_add rfl rfl (by omega)) (by omega) fun v22 hv22 => ?_
              refine needs_sh (sh_scat (sh_scat (sh_c [100]) hv21) (sh_c [58])) hv22 (by decide) ?_
              refine evs_nil ?_
              exact hK _ _ _ (sh_mono (sh_scat (sh_scat (sh_scat (sh_c [100]) hv21) (sh_c [58])) hv22) (by decide)) hb (by omega) (by omega)
            · refine evs_step ?_
              refine pk_step hk rfl ((1 + x18) + 1) (ar_add (ar_add rfl rfl (by omega)) rfl (by omega)) rfl rfl (by omega) hb (by omega) fun x23 x23l x23h => ?_
              refine dec_step1 rfl x23 rfl (by omega) fun v24 hv24 => ?_
              refine needs_sh (sh_c [97]) hv24 (by decide) ?_
              refine needs_sh (sh_scat (sh_c [97]) hv24) (sh_c [58]) (by decide) ?_
              refine dec_step1 rfl (1 + x18) (ar_add rfl rfl (by omega)) (by omega) fun v25 hv25 => ?_
              refine needs_sh (sh_scat (sh_scat (sh_c [97]) hv24) (sh_c [58])) hv25 (by decide) ?_
              refine evs_nil ?_
              exact hK _ _ _ (sh_mono (sh_scat (sh_scat (sh_scat (sh_c [97]) hv24) (sh_c [58])) hv25) (by decide)) hb (by omega) (by omega)
def tr_l92Bench : Tr := (.evs [.call 0 [(.int .i64 4), ξr27, ξr22] none 3] (.lp 0 [ξr0, (.val (.string ⟨#[]⟩)), ξr23, ξr24] [.int .i64, .str, .sl, .int .i64] (.ite (.cmp .lss ξr25 ξr21) (.ite (.cmp .gtr ξr25 ξr0) (.evs [.need [(.cmp .leq (.len ξr29) (.ar .sub .i64 ξr8 (.len (.val (.string ⟨#[32]⟩)))))]] (.evs [.call 1 [ξr20, ξr34, ξr35] none 3, .need [(.cmp .leq (.len (.scat ξr29 (.val (.string ⟨#[32]⟩)))) ξr78)]] (.next 0 [(.ar .add .i64 ξr25 ξr3), (.scat (.scat ξr29 (.val (.string ⟨#[32]⟩))) ξr26), ξr30, ξr50]))) (.evs [.call 1 [ξr20, ξr34, ξr35] none 3, .need [(.cmp .leq (.len ξr29) ξr78)]] (.next 0 [(.ar .add .i64 ξr25 ξr3), (.scat ξr29 ξr26), ξr30, ξr50]))) (.evs [.call 0 [(.int .i64 20), ξr34, ξr35] none 3] (.ite (.cmp .eql ξr26 ξr0) (.evs [.call 2 [ξr30, ξr50, (.val (.string ⟨#[32]⟩)), (.val (.string ⟨#[120]⟩)), (.val (.string ⟨#[114, 48, 58, 48]⟩)), (.val (.string ⟨#[32, 119, 49, 58, 49, 58, 52]⟩)), (.val (.string ⟨#[32, 97, 51, 58, 50]⟩)), (.val (.string ⟨#[32, 102, 48, 49, 58, 49]⟩)), (.val (.string ⟨#[32, 114, 45, 48, 58, 49]⟩)), (.val (.string ⟨#[32, 100, 49, 58, 48]⟩))] none 11, .need [(.cmp .leq (.len ξr29) (.ar .sub .i64 ξr8 (.len ξr53)))]] (.ret [(.scat ξr29 ξr53), ξr54, ξr58])) (.ret [ξr29, ξr30, ξr50]))))))
def Ss_l92Bench (cb : CodeB) : List Spec := [(F_pickC cb).spec, (SP_l92Piece cb), (SP_ofC cb)]
def SP_l92Bench (cb : CodeB) : Spec := drawT cb 100 100 100000
set_option maxHeartbeats 2000000 in
theorem sat_l92Bench (P : Program) (cb : CodeB) (hk : CodeOk cb) (ins : List Value) (K : List Value → Prop) (_ : TypedL [.bool, .sl, .int .i64] ins) (h : SP_l92Bench cb ins K) : sat P (Ss_l92Bench cb) tr_l92Bench ins [] K := by
  obtain ⟨f, b, z, rfl, hb, h0, hz, hK⟩ := h
  refine evs_step (pk_step hk rfl 4 rfl rfl rfl (by omega) hb (by omega) fun nn n0 n1 => evs_nil ?_)
  refine ⟨fun vs => ∃ (j : Nat) (v b' : Value) (z' : Int), (j : Int) ≤ nn ∧ vs = [.int .i64 j, v, b', .int .i64 z'] ∧ Sh (16 * j) v ∧ goodSl cb b' ∧ 0 ≤ z' ∧ z' ≤ z + 1 + 10 * j, fun vs => (nn - toI (vs.getD 0 undef)).toNat, ?_, ?_⟩
  · exact ⟨0, _, b, z + 1, by omega, rfl, sh_c [], hb, by omega, by omega⟩
  · rintro vs _ ⟨j, v, b', z', hj, rfl, hv, hb', z0, z1⟩
    refine ⟨fun h => ?_, fun h => ?_⟩
    · have hlt : (j : Int) < nn := by
        have : decide ((j : Int) < nn) = true := Value.bool.inj h
        simpa using this
      have hw : IntKind.i64.wrap ((j : Int) + 1) = ((j + 1 : Nat) : Int) := by rw [wrap_in (by omega)]; omega
      refine ⟨fun _ => ?_, fun _ => ?_⟩
      · refine evs_step (needs_sh (m := 16 * j) (n := 1) hv (sh_c [32]) (by omega) (evs_nil ?_))
        refine evs_step (call_step rfl ⟨f, b', z', rfl, hb', z0, by omega, fun u b1 q hu hb1 q0 q1 => ?_⟩)
        refine needs_sh (m := 16 * j + 1) (n := 15) (sh_cat hv (sh_c [32])) hu (by omega) (evs_nil ?_)
        refine ⟨⟨j + 1, _, b1, q, by omega, ?_, sh_mono (sh_cat (sh_cat hv (sh_c [32])) hu) (by show 16 * j + 1 + 15 ≤ 16 * (j + 1); omega), hb1, q0, by omega⟩, ?_⟩
        · show [Value.int .i64 (IntKind.i64.wrap ((j : Int) + 1)), _, b1, .int .i64 q] = _
          rw [hw]; rfl
        · show (nn - toI (.int .i64 (IntKind.i64.wrap ((j : Int) + 1)))).toNat < (nn - toI (.int .i64 (j : Int))).toNat
          rw [hw]
          simp only [toI_int]
          omega
      · refine evs_step (call_step rfl ⟨f, b', z', rfl, hb', z0, by omega, fun u b1 q hu hb1 q0 q1 => ?_⟩)
        refine needs_sh (m := 16 * j) (n := 15) hv hu (by omega) (evs_nil ?_)
        refine ⟨⟨j + 1, _, b1, q, by omega, ?_, sh_mono (sh_cat hv hu) (by omega), hb1, q0, by omega⟩, ?_⟩
        · show [Value.int .i64 (IntKind.i64.wrap ((j : Int) + 1)), _, b1, .int .i64 q] = _
          rw [hw]; rfl
        · show (nn - toI (.int .i64 (IntKind.i64.wrap ((j : Int) + 1)))).toNat < (nn - toI (.int .i64 (j : Int))).toNat
          rw [hw]
          simp only [toI_int]
          omega
    · refine evs_step (pk_step hk rfl 20 rfl rfl rfl (by omega) hb' (by omega) fun x x0 x1 => evs_nil ?_)
      have hj3 : j ≤ 3 := by omega
      refine ⟨fun _ => ?_, fun _ => ?_⟩
      · refine evs_step (call_step rfl ⟨b', z' + 1, _, _, _, _, _, _, _, _, rfl, hb', by omega, by omega, fun c hc => ?_, fun u b1 q hu hb1 q0 q1 => ?_⟩)
        · simp only [List.mem_cons, List.not_mem_nil, or_false] at hc
          rcases hc with rfl | rfl | rfl | rfl | rfl | rfl | rfl | rfl
          · exact sh_mono (sh_c [32]) (by decide)
          · exact sh_mono (sh_c [120]) (by decide)
          · exact sh_mono (sh_c [114, 48, 58, 48]) (by decide)
          · exact sh_mono (sh_c [32, 119, 49, 58, 49, 58, 52]) (by decide)
          · exact sh_mono (sh_c [32, 97, 51, 58, 50]) (by decide)
          · exact sh_mono (sh_c [32, 102, 48, 49, 58, 49]) (by decide)
          · exact sh_mono (sh_c [32, 114, 45, 48, 58, 49]) (by decide)
          · exact sh_mono (sh_c [32, 100, 49, 58, 48]) (by decide)
        · refine needs_sh (m := 16 * j) (n := 8) hv hu (by omega) (evs_nil ?_)
          exact hK _ _ _ (sh_mono (sh_cat hv hu) (by omega)) hb1 q0 (by omega)
      · exact hK _ _ _ (sh_mono hv (by omega)) hb' (by omega) (by omega)
def tr_opposite : Tr := (.ret [(.ar .sub .i64 ξr0 ξr20), (.ar .sub .i64 ξr0 ξr27), ξr22])
def Fs_opposite : List Fun1 := []
def F_opposite : Fun1 := ofTree Fs_opposite tr_opposite
def tr_iMatRotator : Tr := (.evs [.call 0 [ξr20, ξr27] none 7] (.ite (.not ξr34) ξr15 (.evs [.call 1 [ξr24, ξr25, ξr29] none 3] (.ret [ξr22, ξr21, ξr23, ξr35, ξr26, ξr30, ξr24, ξr25, ξr29, ξr22, ξr21, ξr23, ξr5]))))
def Fs_iMatRotator : List Fun1 := [G_direction, F_opposite]
def F_iMatRotator : Fun1 := ofTree Fs_iMatRotator tr_iMatRotator
def G_iMatRotator : Fun1 := ⟨fun _ => True, fun ins => rotW (i0 ins 0) (i0 ins 1)⟩
theorem as_iMatRotator (ins : List Value) (ht : TypedL [.int .i64, .int .i64] ins) (_ : G_iMatRotator.pre ins) : F_iMatRotator.pre ins ∧ F_iMatRotator.out ins = G_iMatRotator.out ins := by
  obtain ⟨p, q, rfl, wp, wq⟩ := ints2 ht
  obtain ⟨w1, w2⟩ := dirS_wrap p q
  rw [Int.zero_sub] at w1 w2
  simp only [F_iMatRotator, G_iMatRotator, tr_iMatRotator, Fs_iMatRotator, G_direction, F_opposite, tr_opposite, Fs_opposite, dirV, fr3, arI, ofTree, okT, okE, evalT, evalE, evsIn, ev, callF, preF, hasF, needs, i0, b0, toI_int, toB_bool, List.getD_cons_zero, List.getD_cons_succ, List.cons_append, List.nil_append, List.replicate, if_true, if_false, Bool.false_eq_true, and_true, true_and, implies_true, forall_const, false_implies, cmpI, Bool.not_true, Bool.not_false, Bool.true_and, Bool.false_and, Bool.and_true, Bool.and_false, reduceIte, List.append_nil, reduceCtorEq]
  cases h : dirOk p q
  · simp [h, rotW, rotH, ivs]
  · simp [h, rotW, rotH, ivs, w1, w2]
def tr_iMatAdjoint : Tr := (.evs [.call 0 [ξr20, ξr27, ξr22, ξr2] none 4, .call 0 [ξr25, ξr29, ξr34, ξr58] none 4, .call 0 [ξr21, ξr23, ξr24, ξr80] none 4, .call 0 [ξr35, ξr26, ξr30, ξr59] none 4, .call 1 [ξr50, ξr53, ξr54, ξr60, ξr68, ξr83, ξr69, ξr87, ξr82, ξr67, (.var 25), ξr96, ξr95] none 14] ξr91)
def Fs_iMatAdjoint : List Fun1 := [G_mirror, G_gotMat]
def F_iMatAdjoint : Fun1 := ofTree Fs_iMatAdjoint tr_iMatAdjoint
def G_iMatAdjoint : Fun1 := ⟨fun _ => True, adjW⟩
theorem adj_iI (g : Nat → Int) : F_iMatAdjoint.out (ivs g 0 12) = gotV ((((!(mirQ (q3 (ivs g 0 12) 0)).isSome || !(mirQ (q3 (ivs g 0 12) 6)).isSome) || !(mirQ (q3 (ivs g 0 12) 3)).isSome) || !(mirQ (q3 (ivs g 0 12) 9)).isSome)) (fr3 (mirQ (q3 (ivs g 0 12) 0)) ++ (fr3 (mirQ (q3 (ivs g 0 12) 6)) ++ (fr3 (mirQ (q3 (ivs g 0 12) 3)) ++ fr3 (mirQ (q3 (ivs g 0 12) 9))))) 0 12 ++ [.bool (!(((!(mirQ (q3 (ivs g 0 12) 0)).isSome || !(mirQ (q3 (ivs g 0 12) 6)).isSome) || !(mirQ (q3 (ivs g 0 12) 3)).isSome) || !(mirQ (q3 (ivs g 0 12) 9)).isSome))] := by
  kernel_rfl
theorem as_iMatAdjoint (ins : List Value) (ht : TypedL (intTs 12 ++ []) ins) (_ : G_iMatAdjoint.pre ins) : F_iMatAdjoint.pre ins ∧ F_iMatAdjoint.out ins = G_iMatAdjoint.out ins := by
  obtain ⟨g, r, rfl, h1, _⟩ := ints_lit 12 0 ht
  obtain rfl := ints0 h1
  rw [List.append_nil]
  exact ⟨okT_free (by intro F hF ins; simp only [Fs_iMatAdjoint, List.mem_cons, List.not_mem_nil, or_false] at hF; rcases hF with rfl | rfl <;> trivial) _ _ (by kernel_rfl), (adj_iI g).trans (adj_one _ _ _ _)⟩
def tr_iMatPlate : Tr := (.evs [.call 0 [ξr20, ξr27] none 13] (.evs [.call 1 [ξr22, ξr0, (.int .i64 3)] (some (.not (.not ξr58))) 1] (.ite (.ite (.not ξr58) ξr5 (.not ξr60)) ξr15 (.evs [.need [(.cmp .leq ξr0 ξr22), (.cmp .lss ξr22 (.int .i64 4))], .need [(.cmp .leq ξr0 ξr22), (.cmp .lss ξr22 (.int .i64 4))], .call 2 [ξr21, ξr23, ξr24, ξr25, ξr29, ξr34, ξr35, ξr26, ξr30, ξr50, ξr53, ξr54, ξr3, ξr0, ξr3, ξr0, ξr0, ξr3, ξr0, ξr0, ξr3, (.ite (.cmp .eql ξr22 ξr0) ξr3 (.ite (.cmp .eql ξr22 ξr3) ξr0 (.ite (.cmp .eql ξr22 ξr77) ξr103 ξr0))), (.ite (.cmp .eql ξr22 ξr0) ξr0 (.ite (.cmp .eql ξr22 ξr3) ξr3 (.ite (.cmp .eql ξr22 ξr77) ξr0 ξr103))), (.ite (.cmp .eql ξr22 ξr0) ξr3 (.ite (.cmp .eql ξr22 ξr3) ξr3 (.ite (.cmp .eql ξr22 ξr77) ξr3 ξr3)))] none 13] (.evs [.call 3 ξr84 none 13] (.evs [.call 2 [ξr68, ξr83, ξr80, ξr69, ξr87, ξr82, ξr59, ξr67, (.var 25), ξr96, ξr95, ξr86, (.var 30), (.var 31), (.var 32), (.var 33), (.var 34), (.var 35), (.var 36), (.var 37), (.var 38), (.var 39), (.var 40), (.var 41)] none 13] (.ite (.ite (.not (.var 29)) ξr5 (.not (.var 55))) ξr15 (.ret [(.var 43), (.var 44), (.var 45), (.var 46), (.var 47), (.var 48), (.var 49), ξr81, ξr85, ξr79, (.var 53), (.var 54), ξr5]))))))))
def Fs_iMatPlate : List Fun1 := [G_iMatRotator, G_within, G_iMatTimes, G_iMatAdjoint]
def SP_iMatPlate : Spec := fun ins K => ∃ p q k, ins = [.int .i64 p, .int .i64 q, .int .i64 k] ∧ K (plateV p q k)
set_option maxHeartbeats 2000000 in
theorem sat_iMatPlate (P : Program) (ins : List Value) (K : List Value → Prop) (_ : TypedL [.int .i64, .int .i64, .int .i64] ins) (h : SP_iMatPlate ins K) : sat P (specsOf Fs_iMatPlate) tr_iMatPlate ins [] K := by
  obtain ⟨p, q, k, rfl, hK⟩ := h
  unfold plateV at hK
  refine evs_step (call_step rfl ⟨trivial, evs_nil ?_⟩)
  show sat P _ _ ([.int .i64 p, .int .i64 q, .int .i64 k] ++ (ivs (rotH p q) 0 12 ++ [.bool (dirOk p q)])) [] K
  generalize rotH p q = g at *
  cases hd : dirOk p q with
  | false =>
    rw [hd] at hK
    exact evs_step (callg_step rfl (fun h => by cases h) (fun _ => evs_nil (ite_t rfl hK)))
  | true =>
    refine evs_step (callg_step rfl (fun _ => ⟨trivial, evs_nil ?_⟩) (fun h => by cases h))
    show sat P _ _ ([.int .i64 p, .int .i64 q, .int .i64 k] ++ (ivs g 0 12 ++ [.bool true]) ++ [.bool (inRg k 0 3)]) [] K
    rw [hd, Bool.true_and] at hK
    cases hk : inRg k 0 3 with
    | false =>
      rw [hk] at hK
      exact ite_t rfl hK
    | true =>
      rw [hk, Bool.true_and] at hK
      have hk2 : 0 ≤ k ∧ k ≤ 3 := by simpa [inRg] using hk
      have n1 : Value.bool (decide ((0 : Int) ≤ k)) = .bool true := bt hk2.1
      have n2 : Value.bool (decide (k < (4 : Int))) = .bool true := bt (by omega)
      refine ite_f rfl (evs_step (need_step (all_cons n1 (all_cons n2 all_nil)) (need_step (all_cons n1 (all_cons n2 all_nil)) (call_step rfl ⟨trivial, evs_nil ?_⟩))))
      refine evs_step (call_step rfl ⟨trivial, evs_nil ?_⟩)
      refine evs_step (call_step rfl ⟨trivial, evs_nil ?_⟩)
      refine ⟨fun h => ?_, fun h => ?_⟩
      · have h' : (if toB (.bool (!(b0 (plA g k) 12))) = true then Value.bool true else .bool (!(b0 (plM g k) 12))) = .bool true := Eq.trans (by kernel_rfl) h
        have hf : (b0 (plA g k) 12 && b0 (plM g k) 12) = false := by
          generalize b0 (plA g k) 12 = x at h'
          generalize b0 (plM g k) 12 = y at h'
          cases x <;> cases y <;> first | rfl | cases h'
        rw [hf] at hK
        exact hK
      · have h' : (if toB (.bool (!(b0 (plA g k) 12))) = true then Value.bool true else .bool (!(b0 (plM g k) 12))) = .bool false := Eq.trans (by kernel_rfl) h
        have hf : (b0 (plA g k) 12 && b0 (plM g k) 12) = true := by
          generalize b0 (plA g k) 12 = x at h'
          generalize b0 (plM g k) 12 = y at h'
          cases x <;> cases y <;> first | rfl | cases h'
        rw [hf] at hK
        have hK : K ((plM g k).take 12 ++ [.bool true]) := hK
        refine Eq.mp (congrArg K ?_) hK
        kernel_rfl
def tr_iMatFilter : Tr := (.evs [.call 0 [ξr20, ξr27] none 7] (.evs [.call 1 [ξr34, ξr2] none 1] (.evs [.call 2 [ξr22, ξr21, ξr23, ξr22, ξr21, ξr23, ξr35] none 4, .call 2 [ξr22, ξr21, ξr23, ξr24, ξr25, ξr29, ξr53] none 4, .call 2 [ξr22, ξr21, ξr23, ξr24, ξr25, ξr29, ξr68] none 4, .call 2 [ξr24, ξr25, ξr29, ξr24, ξr25, ξr29, ξr87] none 4, .call 3 [ξr26, ξr30, ξr50, ξr54, ξr58, ξr60, ξr83, ξr80, ξr69, ξr82, ξr59, ξr67, (.var 25)] none 14] (.ret [ξr96, ξr95, ξr86, (.var 29), (.var 30), (.var 31), (.var 32), (.var 33), (.var 34), (.var 35), (.var 36), (.var 37), (.var 38)]))))
def Fs_iMatFilter : List Fun1 := [G_direction, G_need, G_times, G_gotMat]
def F_iMatFilter : Fun1 := ofTree Fs_iMatFilter tr_iMatFilter
def G_iMatFilter : Fun1 := ⟨fun _ => True, fun ins => filtW (i0 ins 0) (i0 ins 1)⟩
theorem filt_iI (p q : Int) : F_iMatFilter.out [.int .i64 p, .int .i64 q] = filtI (dirOk p q) (timesQ ((dirC p q).getD zq) ((dirC p q).getD zq)) (timesQ ((dirC p q).getD zq) ((dirS p q).getD zq)) (timesQ ((dirS p q).getD zq) ((dirS p q).getD zq)) := by kernel_rfl
theorem as_iMatFilter (ins : List Value) (ht : TypedL [.int .i64, .int .i64] ins) (_ : G_iMatFilter.pre ins) : F_iMatFilter.pre ins ∧ F_iMatFilter.out ins = G_iMatFilter.out ins := by
  obtain ⟨p, q, rfl, wp, wq⟩ := ints2 ht
  exact ⟨okT_free (by intro F hF ins; simp only [Fs_iMatFilter, List.mem_cons, List.not_mem_nil, or_false] at hF; rcases hF with rfl | rfl | rfl | rfl <;> trivial) _ _ (by kernel_rfl), (filt_iI p q).trans (filt_one _ _ _ _)⟩
def tr_share : Tr := (.evs [.need ξr74, .need ξr74, .call 0 [(.sel ξr21 ξr0 1 0), ξr0, (.sel ξr21 ξr3 1 0)] none 4] (.ret [ξr23, ξr24, ξr25]))
def Fs_share : List Fun1 := [G_lowest]
def shareQ (ns : List Int) : Option Q := lowI (ns.getD 0 0) 0 (ns.getD 1 0)
def noMat : List Value := zeros 12 ++ [.bool false]
def scalW (a : Option Q) : List Value := fr3 a ++ ([.int .i64 0, .int .i64 0, .int .i64 1, .int .i64 0, .int .i64 0, .int .i64 1] ++ (fr3 a ++ [.bool true]))
def pieceM (k : UInt8) (ns : List Int) : List Value :=
  if k = 114 then rotW (ns.getD 0 0) (ns.getD 1 0) else if k = 119 then plateV (ns.getD 0 0) (ns.getD 1 0) (ns.getD 2 0)
  else if k = 102 then filtW (ns.getD 0 0) (ns.getD 1 0) else if k = 97 then scalW (shareQ ns) else noMat
theorem ok_two {k : UInt8} {ns : List Int} (hk : k = 114 ∨ k = 102 ∨ k = 97 ∨ k = 100) (h : okPiece k ns = true) : ∃ p q, ns = [p, q] := by
  by_cases h2 : ns.length = 2
  · exact two_list h2
  · rw [ok_len2 hk h2] at h; cases h
theorem ok_three {ns : List Int} (h : okPiece 119 ns = true) : ∃ p q r, ns = [p, q, r] := by
  by_cases h2 : ns.length = 3
  · exact three_list h2
  · rw [ok_len3 h2] at h; cases h
def partOk (n d : Int) : Prop := 0 ≤ n ∧ n ≤ d ∧ 1 ≤ d ∧ d ≤ 100
theorem ok_part {k : UInt8} {n d : Int} (hk : k = 97 ∨ k = 100) (h : okPiece k [n, d] = true) : partOk n d := by
  have h : (inRg d 1 100 && inRg n 0 d) = true := by
    rcases hk with rfl | rfl <;> exact h
  simp only [inRg, Bool.and_eq_true, decide_eq_true_eq] at h
  unfold partOk
  omega
def SP_part : Spec := fun ins K => ∃ k x t n d, ins = [k, x, t, rowI [n, d]] ∧ partOk n d ∧ K (fr3 (shareQ [n, d]))
def SP_partS : Spec := fun ins K => ∃ k x n d, ins = [k, x, rowI [n, d]] ∧ partOk n d ∧ K (fr3 (shareQ [n, d]))
def SP_pm : Spec := fun ins K => ∃ k x t ns, ins = [u8 k, x, t, rowI ns] ∧ okPiece k ns = true ∧ K (pieceM k ns)
def SP_pmS : Spec := fun ins K => ∃ k x ns, ins = [u8 k, x, rowI ns] ∧ okPiece k ns = true ∧ K (pieceM k ns)
theorem inb_two {p q : Int} : ∀ i : Nat, i < 2 → Value.bool (decide (0 ≤ (i : Int) ∧ ((i : Int).toNat + 1) * 1 ≤ (rowI [p, q]).cells.size)) = .bool true := fun i hi => inb_true (c := rowI [p, q]) (i := i) (n := 1) (by rw [rowI_size]; simp only [List.length_cons, List.length_nil]; omega)
theorem inb_three {p q r : Int} : ∀ i : Nat, i < 3 → Value.bool (decide (0 ≤ (i : Int) ∧ ((i : Int).toNat + 1) * 1 ≤ (rowI [p, q, r]).cells.size)) = .bool true := fun i hi => inb_true (c := rowI [p, q, r]) (i := i) (n := 1) (by rw [rowI_size]; simp only [List.length_cons, List.length_nil]; omega)
theorem all2 {p q : Int} {env : List Value} {x y : Ex} (h0 : ev env x = Value.bool (decide (0 ≤ ((0 : Nat) : Int) ∧ (((0 : Nat) : Int).toNat + 1) * 1 ≤ (rowI [p, q]).cells.size))) (h1 : ev env y = Value.bool (decide (0 ≤ ((1 : Nat) : Int) ∧ (((1 : Nat) : Int).toNat + 1) * 1 ≤ (rowI [p, q]).cells.size))) : AllTrue env [x, y] :=
  all_cons (h0.trans (inb_two 0 (by omega))) (all_cons (h1.trans (inb_two 1 (by omega))) all_nil)
theorem all3 {p q r : Int} {env : List Value} {x y z : Ex} (h0 : ev env x = Value.bool (decide (0 ≤ ((0 : Nat) : Int) ∧ (((0 : Nat) : Int).toNat + 1) * 1 ≤ (rowI [p, q, r]).cells.size))) (h1 : ev env y = Value.bool (decide (0 ≤ ((1 : Nat) : Int) ∧ (((1 : Nat) : Int).toNat + 1) * 1 ≤ (rowI [p, q, r]).cells.size))) (h2 : ev env z = Value.bool (decide (0 ≤ ((2 : Nat) : Int) ∧ (((2 : Nat) : Int).toNat + 1) * 1 ≤ (rowI [p, q, r]).cells.size))) : AllTrue env [x, y, z] :=
  all_cons (h0.trans (inb_three 0 (by omega))) (all_cons (h1.trans (inb_three 1 (by omega))) (all_cons (h2.trans (inb_three 2 (by omega))) all_nil))
def SP_share : Spec := SP_part
theorem sat_share (P : Program) (ins : List Value) (K : List Value → Prop) (_ : TypedL [.int .u8, .sl, .str, .row .i64 1] ins) (h : SP_share ins K) : sat P (specsOf Fs_share) tr_share ins [] K := by
  obtain ⟨k, x, t, n, d, rfl, ho, hK⟩ := h
  unfold partOk at ho
  refine evs_step (need_step (all2 (p := n) (q := d) rfl rfl) (need_step (all2 (p := n) (q := d) rfl rfl) (call_step rfl ⟨?_, evs_nil hK⟩)))
  show lowOk n 0 d
  unfold lowOk
  omega
def tr_mat : Tr := (.ite (.cmp .eql ξr20 (.int .u8 114)) (.evs [.need ξr74, .need ξr74, .call 0 [(.sel ξr21 ξr0 1 0), (.sel ξr21 ξr3 1 0)] none 13] ξr71) (.ite (.cmp .eql ξr20 (.int .u8 119)) (.evs [.need [(.inb ξr21 ξr0 1), (.inb ξr21 ξr3 1), (.inb ξr21 ξr77 1)], .need [(.inb ξr21 ξr0 1), (.inb ξr21 ξr3 1), (.inb ξr21 ξr77 1)], .call 1 [(.sel ξr21 ξr0 1 0), (.sel ξr21 ξr3 1 0), (.sel ξr21 ξr77 1 0)] none 13] ξr71) (.ite (.cmp .eql ξr20 (.int .u8 102)) (.evs [.need ξr74, .need ξr74, .call 2 [(.sel ξr21 ξr0 1 0), (.sel ξr21 ξr3 1 0)] none 13] ξr71) (.ite (.cmp .eql ξr20 (.int .u8 97)) (.evs [.call 3 [ξr20, ξr27, ξr22, ξr21] none 3, .call 3 [ξr20, ξr27, ξr22, ξr21] none 3] (.ret [ξr23, ξr24, ξr25, ξr0, ξr0, ξr3, ξr0, ξr0, ξr3, ξr29, ξr34, ξr35, ξr5])) ξr15))))
def Ss_mat : List Spec := [G_iMatRotator.spec, SP_iMatPlate, G_iMatFilter.spec, SP_share]
def SP_mat : Spec := SP_pm
set_option maxHeartbeats 2000000 in
theorem sat_mat (P : Program) (ins : List Value) (K : List Value → Prop) (_ : TypedL [.int .u8, .sl, .str, .row .i64 1] ins) (h : SP_mat ins K) : sat P Ss_mat tr_mat ins [] K := by
  obtain ⟨k, x, t, ns, rfl, ho, hK⟩ := h
  rcases k_cases k with rfl | rfl | rfl | rfl | rfl | ⟨h1, h2, h3, h4, h5⟩
  · obtain ⟨p, q, rfl⟩ := ok_two (.inl rfl) ho
    refine ite_t rfl (evs_step (need_step (all2 (p := p) (q := q) rfl rfl) (need_step (all2 (p := p) (q := q) rfl rfl) (call_step rfl ⟨trivial, evs_nil ?_⟩))))
    have hK : K (rotW p q) := hK
    refine Eq.mp (congrArg K ?_) hK
    kernel_rfl
  · obtain ⟨p, q, rfl⟩ := ok_two (.inr (.inl rfl)) ho
    refine ite_f rfl (ite_f rfl (ite_t rfl (evs_step (need_step (all2 (p := p) (q := q) rfl rfl) (need_step (all2 (p := p) (q := q) rfl rfl) (call_step rfl ⟨trivial, evs_nil ?_⟩))))))
    have hK : K (filtW p q) := hK
    refine Eq.mp (congrArg K ?_) hK
    kernel_rfl
  · obtain ⟨p, q, r, rfl⟩ := ok_three ho
    refine ite_f rfl (ite_t rfl (evs_step (need_step (all3 (p := p) (q := q) (r := r) rfl rfl rfl) (need_step (all3 (p := p) (q := q) (r := r) rfl rfl rfl) (call_step rfl ⟨p, q, r, rfl, evs_nil ?_⟩)))))
    have hK : K (plateV p q r) := hK
    obtain ⟨g, b, e⟩ : ∃ (g : Nat → Int) (b : Bool), plateV p q r = ivs g 0 12 ++ [.bool b] := plate_lit p q r
    rw [e] at hK ⊢
    exact hK
  · obtain ⟨p, q, rfl⟩ := ok_two (.inr (.inr (.inl rfl))) ho
    have hp := ok_part (.inl rfl) ho
    refine ite_f rfl (ite_f rfl (ite_f rfl (ite_t rfl (evs_step (call_step rfl ⟨_, _, _, p, q, rfl, hp, call_step rfl ⟨_, _, _, p, q, rfl, hp, evs_nil ?_⟩⟩)))))
    exact hK
  · refine ite_f rfl (ite_f rfl (ite_f rfl (ite_f rfl ?_)))
    exact hK
  · rw [ok_other h1 h2 h3 h4 h5] at ho; cases ho
def tr_l7Part : Tr := (.evs [.need ξr73, .need ξr73, .call 0 [(.sel ξr22 ξr0 1 0), ξr0, (.sel ξr22 ξr3 1 0)] none 4] (.ret [ξr21, ξr23, ξr24]))
def Fs_l7Part : List Fun1 := [G_sFracMake]
def SP_l7Part : Spec := SP_partS
theorem sat_l7Part (P : Program) (ins : List Value) (K : List Value → Prop) (_ : TypedL [.int .u8, .sl, .row .i64 1] ins) (h : SP_l7Part ins K) : sat P (specsOf Fs_l7Part) tr_l7Part ins [] K := by
  obtain ⟨k, x, n, d, rfl, ho, hK⟩ := h
  unfold partOk at ho
  refine evs_step (need_step (all2 (p := n) (q := d) rfl rfl) (need_step (all2 (p := n) (q := d) rfl rfl) (call_step rfl ⟨trivial, evs_nil ?_⟩)))
  have e : makeI n 0 d = lowI n 0 d := make_small (x := 100) (by omega) (by omega) (by omega) (by omega)
  show K (fr3 (makeI n 0 d))
  rw [e]
  exact hK
def tr_l7Mat : Tr := (.ite (.cmp .eql ξr20 (.int .u8 114)) (.evs [.need ξr73, .need ξr73, .call 0 [(.sel ξr22 ξr0 1 0), (.sel ξr22 ξr3 1 0)] none 13] ξr72) (.ite (.cmp .eql ξr20 (.int .u8 119)) (.evs [.need [(.inb ξr22 ξr0 1), (.inb ξr22 ξr3 1), (.inb ξr22 ξr77 1)], .need [(.inb ξr22 ξr0 1), (.inb ξr22 ξr3 1), (.inb ξr22 ξr77 1)], .call 1 [(.sel ξr22 ξr0 1 0), (.sel ξr22 ξr3 1 0), (.sel ξr22 ξr77 1 0)] none 13] ξr72) (.ite (.cmp .eql ξr20 (.int .u8 102)) (.evs [.need ξr73, .need ξr73, .call 2 [(.sel ξr22 ξr0 1 0), (.sel ξr22 ξr3 1 0)] none 13] ξr72) (.ite (.cmp .eql ξr20 (.int .u8 97)) (.evs [.call 3 ξr17 none 3] (.evs [.call 4 [ξr21, ξr23, ξr24, ξr21, ξr23, ξr24] none 12] (.ret [ξr25, ξr29, ξr34, ξr35, ξr26, ξr30, ξr50, ξr53, ξr54, ξr58, ξr60, ξr68, ξr5]))) ξr15))))
def Ss_l7Mat : List Spec := [G_sMatRotator.spec, SP_sMatPlate, G_sMatFilter.spec, SP_l7Part, F_l5One.spec]
def SP_l7Mat : Spec := SP_pmS
set_option maxHeartbeats 2000000 in
theorem sat_l7Mat (P : Program) (ins : List Value) (K : List Value → Prop) (_ : TypedL [.int .u8, .sl, .row .i64 1] ins) (h : SP_l7Mat ins K) : sat P Ss_l7Mat tr_l7Mat ins [] K := by
  obtain ⟨k, x, ns, rfl, ho, hK⟩ := h
  rcases k_cases k with rfl | rfl | rfl | rfl | rfl | ⟨h1, h2, h3, h4, h5⟩
  · obtain ⟨p, q, rfl⟩ := ok_two (.inl rfl) ho
    refine ite_t rfl (evs_step (need_step (all2 (p := p) (q := q) rfl rfl) (need_step (all2 (p := p) (q := q) rfl rfl) (call_step rfl ⟨trivial, evs_nil ?_⟩))))
    have hK : K (rotW p q) := hK
    refine Eq.mp (congrArg K ?_) hK
    kernel_rfl
  · obtain ⟨p, q, rfl⟩ := ok_two (.inr (.inl rfl)) ho
    refine ite_f rfl (ite_f rfl (ite_t rfl (evs_step (need_step (all2 (p := p) (q := q) rfl rfl) (need_step (all2 (p := p) (q := q) rfl rfl) (call_step rfl ⟨trivial, evs_nil ?_⟩))))))
    have hK : K (filtW p q) := hK
    refine Eq.mp (congrArg K ?_) hK
    kernel_rfl
  · obtain ⟨p, q, r, rfl⟩ := ok_three ho
    refine ite_f rfl (ite_t rfl (evs_step (need_step (all3 (p := p) (q := q) (r := r) rfl rfl rfl) (need_step (all3 (p := p) (q := q) (r := r) rfl rfl rfl) (call_step rfl ⟨p, q, r, rfl, evs_nil ?_⟩)))))
    have hK : K (plateV p q r) := hK
    obtain ⟨g, b, e⟩ : ∃ (g : Nat → Int) (b : Bool), plateV p q r = ivs g 0 12 ++ [.bool b] := plate_lit p q r
    rw [e] at hK ⊢
    exact hK
  · obtain ⟨p, q, rfl⟩ := ok_two (.inr (.inr (.inl rfl))) ho
    have hp := ok_part (.inl rfl) ho
    refine ite_f rfl (ite_f rfl (ite_f rfl (ite_t rfl (evs_step (call_step rfl ⟨_, _, p, q, rfl, hp, evs_nil ?_⟩)))))
    refine evs_step (call_step rfl ⟨trivial, evs_nil ?_⟩)
    exact hK
  · refine ite_f rfl (ite_f rfl (ite_f rfl (ite_f rfl ?_)))
    exact hK
  · rw [ok_other h1 h2 h3 h4 h5] at ho; cases ho
def tr_iBenchMat : Tr := (.evs [.call 0 [ξr20] none 3] (.lp 0 [ξr0, ξr22, ξr3, ξr0, ξr3, ξr0, ξr0, ξr3, ξr0, ξr0, ξr3, ξr3, ξr0, ξr3] [.int .i64, .bool, .int .i64, .int .i64, .int .i64, .int .i64, .int .i64, .int .i64, .int .i64, .int .i64, .int .i64, .int .i64, .int .i64, .int .i64] (.ite (.cmp .lss ξr23 (.len ξr27)) (.evs [.need [(.inb ξr21 ξr23 3)]] (.evs [.call 1 [(.sel ξr21 ξr23 3 0), (.hd (.sel ξr21 ξr23 3 1)), (.sel ξr21 ξr23 3 2), (.tl (.sel ξr21 ξr23 3 1))] none 13] (.evs [.call 2 [ξr83, ξr80, ξr69, ξr87, ξr82, ξr59, ξr67, (.var 25), ξr96, ξr95, ξr86, (.var 29), ξr25, ξr29, ξr34, ξr35, ξr26, ξr30, ξr50, ξr53, ξr54, ξr58, ξr60, ξr68] none 13] (.next 0 [(.ar .add .i64 ξr23 ξr3), (.ite (.ite ξr24 (.var 30) ξr2) (.var 43) ξr2), (.var 31), (.var 32), (.var 33), (.var 34), (.var 35), (.var 36), (.var 37), (.var 38), (.var 39), (.var 40), (.var 41), (.var 42)])))) (.ite (.not ξr24) ξr15 (.ret [ξr25, ξr29, ξr34, ξr35, ξr26, ξr30, ξr50, ξr53, ξr54, ξr58, ξr60, ξr68, ξr5])))))
def Ss_iBenchMat : List Spec := [SP_readBench, SP_mat, G_iMatTimes.spec]
theorem pieceM_lit (k : UInt8) (ns : List Int) : ∃ (g : Nat → Int) (b : Bool), pieceM k ns = ivs g 0 12 ++ [.bool b] := by
  unfold pieceM
  split
  · exact ⟨_, _, rfl⟩
  · split
    · exact plate_lit _ _ _
    · split
      · exact ⟨_, _, rfl⟩
      · split
        · refine ⟨fun i => if i = 0 then ((shareQ ns).getD zq).1 else if i = 1 then ((shareQ ns).getD zq).2.1 else if i = 2 then ((shareQ ns).getD zq).2.2 else if i = 5 then 1 else if i = 8 then 1 else if i = 9 then ((shareQ ns).getD zq).1 else if i = 10 then ((shareQ ns).getD zq).2.1 else if i = 11 then ((shareQ ns).getD zq).2.2 else 0, true, rfl⟩
        · exact ⟨fun _ => 0, false, rfl⟩
def mulT (h g : Nat → Int) : Bool := nttT 4 (matQ (fun k => q3 (ivs h 0 12 ++ ivs g 0 12) (3 * k)) && matQ (fun k => q3 (ivs h 0 12 ++ ivs g 0 12) (12 + 3 * k))) (mulM (fun k => q3 (ivs h 0 12 ++ ivs g 0 12) (3 * k)) (fun k => q3 (ivs h 0 12 ++ ivs g 0 12) (12 + 3 * k)))
def mulN (h g : Nat → Int) : Nat → Int := nttH 4 (matQ (fun k => q3 (ivs h 0 12 ++ ivs g 0 12) (3 * k)) && matQ (fun k => q3 (ivs h 0 12 ++ ivs g 0 12) (12 + 3 * k))) (mulM (fun k => q3 (ivs h 0 12 ++ ivs g 0 12) (3 * k)) (fun k => q3 (ivs h 0 12 ++ ivs g 0 12) (12 + 3 * k)))
def stepM (p : Pc) (acc : List Value) : Option (List Value) :=
  if (b0 (pieceM p.k p.ns) 12 && b0 (mulW ((pieceM p.k p.ns).take 12 ++ acc)) 12) = true then some ((mulW ((pieceM p.k p.ns).take 12 ++ acc)).take 12) else none
theorem stepM_lit {p : Pc} {h g : Nat → Int} {b : Bool} (e : pieceM p.k p.ns = ivs h 0 12 ++ [.bool b]) : stepM p (ivs g 0 12) = if (b && mulT h g) = true then some (ivs (mulN h g) 0 12) else none := by
  unfold stepM
  rw [e]
  rfl
def benchM (acc : Option (List Value)) : List Pc → Option (List Value)
  | [] => acc
  | p :: r => benchM (acc.bind (stepM p)) r
theorem benchM_snoc (p : Pc) : ∀ (l : List Pc) (acc : Option (List Value)), benchM acc (l ++ [p]) = (benchM acc l).bind (stepM p)
  | [], acc => rfl
  | q :: r, acc => benchM_snoc p r _
theorem benchM_none : ∀ l : List Pc, benchM none l = none
  | [] => rfl
  | _ :: r => benchM_none r
def oneG (i : Nat) : Int := if i = 0 then 1 else if i = 2 then 1 else if i = 5 then 1 else if i = 8 then 1 else if i = 9 then 1 else if i = 11 then 1 else 0
def benchMV (s : List UInt8) : List Value := match benchW s with
  | some ps => (match benchM (some (ivs oneG 0 12)) ps with
    | some acc => acc ++ [.bool true]
    | none => noMat)
  | none => noMat
theorem andV_b (a b : Bool) : andV (.bool a) (.bool b) = .bool (a && b) := by cases a <;> rfl
def BmAt (ps : List Pc) (i : Nat) (ok : Bool) (g : Nat → Int) : Prop := if ok = true then benchM (some (ivs oneG 0 12)) (ps.take i) = some (ivs g 0 12) else benchM (some (ivs oneG 0 12)) (ps.take i) = none
theorem bmAt_step {ps : List Pc} {i : Nat} {ok b : Bool} {g h : Nat → Int} {p : Pc} (ha : BmAt ps i ok g) (hp : ps[i]? = some p) (e : pieceM p.k p.ns = ivs h 0 12 ++ [.bool b]) : BmAt ps (i + 1) (ok && b && mulT h g) (mulN h g) := by
  unfold BmAt at ha ⊢
  have ht : ps.take (i + 1) = ps.take i ++ [p] := by rw [List.take_add_one, hp]; rfl
  rw [ht, benchM_snoc]
  cases ok with
  | false =>
    have ha : benchM (some (ivs oneG 0 12)) (ps.take i) = none := ha
    rw [ha]
    rfl
  | true =>
    have ha : benchM (some (ivs oneG 0 12)) (ps.take i) = some (ivs g 0 12) := ha
    rw [ha]
    show if (b && mulT h g) = true then stepM p (ivs g 0 12) = _ else stepM p (ivs g 0 12) = _
    rw [stepM_lit e]
    cases b && mulT h g <;> rfl
def SP_iBenchMat : Spec := fun ins K => ∃ s, ins = [bv s] ∧ s.length ≤ 2097152 ∧ K (benchMV s)
set_option maxHeartbeats 4000000 in
theorem sat_iBenchMat (P : Program) (ins : List Value) (K : List Value → Prop) (_ : TypedL [.str] ins) (h : SP_iBenchMat ins K) : sat P Ss_iBenchMat tr_iBenchMat ins [] K := by
  obtain ⟨s, rfl, hl, hK⟩ := h
  refine evs_step (call_step rfl ⟨s, rfl, hl, ?_⟩)
  unfold benchMV at hK
  cases hb : benchW s with
  | none =>
    rw [hb] at hK
    refine evs_nil ⟨fun vs => ∃ g : Nat → Int, vs = [.int .i64 0, .bool false] ++ ivs g 0 12, fun _ => 0, ⟨oneG, rfl⟩, ?_⟩
    rintro vs _ ⟨g, rfl⟩
    exact ite_f rfl (ite_t rfl hK)
  | some ps =>
    rw [hb] at hK
    dsimp only at hK
    have hok := benchW_ok hb
    intro a len cap l e1 hsl he
    subst he
    refine evs_nil ⟨fun vs => ∃ (i : Nat) (ok : Bool) (g : Nat → Int), vs = [.int .i64 i, .bool ok] ++ ivs g 0 12 ∧ i ≤ ps.length ∧ BmAt ps i ok g, fun vs => ps.length - (toI (vs.getD 0 undef)).toNat, ⟨0, true, oneG, rfl, by omega, rfl⟩, ?_⟩
    have h12 := (benchW_some hb).1
    have hll : l.length = ps.length := by rw [← e1, List.length_map]
    rintro vs _ ⟨i, ok, g, rfl, hi, hat⟩
    refine ⟨fun hc => ?_, fun hc => ?_⟩
    · have hlt : i < ps.length := by
        have hc : Value.bool (decide ((i : Int) < (ps.length : Int))) = .bool true := hc
        have := bt_of hc; omega
      have hlt2 : i < l.length := by omega
      have hx := List.getElem?_eq_getElem hlt2
      generalize l[i] = x at hx
      have hp : ps[i]? = some x.1 := by rw [← e1, List.getElem?_map, hx]; rfl
      obtain ⟨h, b, e⟩ := pieceM_lit x.1.k x.1.ns
      have hw : IntKind.i64.wrap ((i : Int) + 1) = ((i + 1 : Nat) : Int) := by rw [wrap_in (by omega)]; omega
      refine evs_step (need_step (all_cons (inb_true (c := rowB l) (i := i) (n := 3) (by rw [rowB_size]; omega)) all_nil) (evs_nil ?_))
      refine evs_step (call_step rfl ⟨x.1.k, x.2, bv x.1.t, x.1.ns, ?_, hok _ (List.mem_of_getElem? hp), evs_nil ?_⟩)
      · show [(rowB l).cells.getD ((i : Int).toNat * 3 + 0) undef, hdV ((rowB l).cells.getD ((i : Int).toNat * 3 + 1) undef), (rowB l).cells.getD ((i : Int).toNat * 3 + 2) undef, tlV ((rowB l).cells.getD ((i : Int).toNat * 3 + 1) undef)] = _
        rw [Int.toNat_natCast, rowB_get hx (by omega) rfl, rowB_get hx (by omega) rfl, rowB_get hx (by omega) rfl]
        rfl
      rw [e]
      refine evs_step (call_step rfl ⟨trivial, evs_nil ?_⟩)
      refine ⟨⟨i + 1, ok && b && mulT h g, mulN h g, ?_, by omega, bmAt_step hat hp e⟩, ?_⟩
      · refine Eq.trans (b := [.int .i64 (IntKind.i64.wrap ((i : Int) + 1)), andV (andV (.bool ok) (.bool b)) (.bool (mulT h g))] ++ ivs (mulN h g) 0 12) (by kernel_rfl) ?_
        rw [hw, andV_b, andV_b]
      · show ps.length - (toI (.int .i64 (IntKind.i64.wrap ((i : Int) + 1)))).toNat < ps.length - (toI (.int .i64 (i : Int))).toNat
        rw [hw]
        simp only [toI_int]
        omega
    · have hge : i = ps.length := by
        have hc : Value.bool (decide ((i : Int) < (ps.length : Int))) = .bool false := hc
        have := bf_of hc; omega
      subst hge
      unfold BmAt at hat
      rw [List.take_length] at hat
      cases ok with
      | false =>
        have hat : benchM (some (ivs oneG 0 12)) ps = none := hat
        rw [hat] at hK
        exact ite_t rfl hK
      | true =>
        have hat : benchM (some (ivs oneG 0 12)) ps = some (ivs g 0 12) := hat
        rw [hat] at hK
        exact ite_f rfl hK
def tr_table : Tr := (.ite (.cmp .eql ξr20 (.int .u8 100)) (.evs [.call 1 [ξr20, ξr27, ξr22, ξr21] none 3, .call 0 [ξr23, ξr24, ξr25] none 49] (.ret [ξr29, ξr34, ξr35, ξr26, ξr30, ξr50, ξr53, ξr54, ξr58, ξr60, ξr68, ξr83, ξr80, ξr69, ξr87, ξr82, ξr59, ξr67, (.var 25), ξr96, ξr95, ξr86, (.var 29), (.var 30), (.var 31), (.var 32), (.var 33), (.var 34), (.var 35), (.var 36), (.var 37), (.var 38), (.var 39), (.var 40), (.var 41), (.var 42), (.var 43), (.var 44), (.var 45), (.var 46), (.var 47), (.var 48), (.var 49), ξr81, ξr85, ξr79, (.var 53), (.var 54), (.var 55)])) (.evs [.call 2 [ξr20, ξr27, ξr22, ξr21] none 13] (.ite (.not ξr60) ξr10 (.evs [.call 3 [ξr23, ξr24, ξr25, ξr29, ξr34, ξr35, ξr26, ξr30, ξr50, ξr53, ξr54, ξr58] none 49] (.ret [ξr68, ξr83, ξr80, ξr69, ξr87, ξr82, ξr59, ξr67, (.var 25), ξr96, ξr95, ξr86, (.var 29), (.var 30), (.var 31), (.var 32), (.var 33), (.var 34), (.var 35), (.var 36), (.var 37), (.var 38), (.var 39), (.var 40), (.var 41), (.var 42), (.var 43), (.var 44), (.var 45), (.var 46), (.var 47), (.var 48), (.var 49), ξr81, ξr85, ξr79, (.var 53), (.var 54), (.var 55), (.var 56), (.var 57), (.var 58), (.var 59), (.var 60), (.var 61), (.var 62), (.var 63), (.var 64), (.var 65)])))))
def Ss_table : List Spec := [G_iTableFade.spec, SP_share, SP_mat, G_iTableOf.spec]
def tofW (ins : List Value) : List Value := nttW 16 (matQ fun k => q3 ins (3 * k)) (toD fun k => q3 ins (3 * k))
def fadeW (a : Q) : List Value := nttW 16 (realQ a) (fdD a)
def pieceT (k : UInt8) (ns : List Int) : List Value :=
  if k = 100 then fadeW ((shareQ ns).getD zq) else if b0 (pieceM k ns) 12 = true then tofW ((pieceM k ns).take 12) else zeros 48 ++ [.bool false]
theorem pieceT_lit (k : UInt8) (ns : List Int) : ∃ (g : Nat → Int) (b : Bool), pieceT k ns = ivs g 0 48 ++ [.bool b] := by
  unfold pieceT
  split
  · exact ⟨_, _, rfl⟩
  · split
    · exact ⟨_, _, rfl⟩
    · exact ⟨fun _ => 0, false, rfl⟩
def SP_pt : Spec := fun ins K => ∃ k x t ns, ins = [u8 k, x, t, rowI ns] ∧ okPiece k ns = true ∧ K (pieceT k ns)
def SP_ptS : Spec := fun ins K => ∃ k x ns, ins = [u8 k, x, rowI ns] ∧ okPiece k ns = true ∧ K (pieceT k ns)
def SP_table : Spec := SP_pt
set_option maxHeartbeats 2000000 in
theorem sat_table (P : Program) (ins : List Value) (K : List Value → Prop) (_ : TypedL [.int .u8, .sl, .str, .row .i64 1] ins) (h : SP_table ins K) : sat P Ss_table tr_table ins [] K := by
  obtain ⟨k, x, t, ns, rfl, ho, hK⟩ := h
  unfold pieceT at hK
  by_cases hk : k = 100
  · subst hk
    obtain ⟨p, q, rfl⟩ := ok_two (.inr (.inr (.inr rfl))) ho
    have hp := ok_part (.inr rfl) ho
    rw [if_pos rfl] at hK
    refine ite_t rfl (evs_step (call_step rfl ⟨_, _, _, p, q, rfl, hp, call_step rfl ⟨trivial, evs_nil ?_⟩⟩))
    refine Eq.mp (congrArg K ?_) hK
    kernel_rfl
  · rw [if_neg hk] at hK
    refine ite_f (beq_f (m := 100) hk) (evs_step (call_step rfl ⟨k, x, t, ns, rfl, ho, ?_⟩))
    obtain ⟨g, b, e⟩ := pieceM_lit k ns
    rw [e] at hK ⊢
    refine evs_nil ?_
    cases b with
    | false => exact ite_t rfl hK
    | true =>
      refine ite_f rfl (evs_step (call_step rfl ⟨trivial, evs_nil ?_⟩))
      have hK : K (tofW (ivs g 0 12)) := hK
      refine Eq.mp (congrArg K ?_) hK
      kernel_rfl
def tr_l7Table : Tr := (.ite (.cmp .eql ξr20 (.int .u8 100)) (.evs [.call 0 ξr17 none 3, .call 1 [ξr21, ξr23, ξr24] none 49] (.ret [ξr25, ξr29, ξr34, ξr35, ξr26, ξr30, ξr50, ξr53, ξr54, ξr58, ξr60, ξr68, ξr83, ξr80, ξr69, ξr87, ξr82, ξr59, ξr67, (.var 25), ξr96, ξr95, ξr86, (.var 29), (.var 30), (.var 31), (.var 32), (.var 33), (.var 34), (.var 35), (.var 36), (.var 37), (.var 38), (.var 39), (.var 40), (.var 41), (.var 42), (.var 43), (.var 44), (.var 45), (.var 46), (.var 47), (.var 48), (.var 49), ξr81, ξr85, ξr79, (.var 53), (.var 54)])) (.evs [.call 2 ξr17 none 13] (.ite (.not ξr58) ξr10 (.evs [.call 3 ξr84 none 49] (.ret [ξr60, ξr68, ξr83, ξr80, ξr69, ξr87, ξr82, ξr59, ξr67, (.var 25), ξr96, ξr95, ξr86, (.var 29), (.var 30), (.var 31), (.var 32), (.var 33), (.var 34), (.var 35), (.var 36), (.var 37), (.var 38), (.var 39), (.var 40), (.var 41), (.var 42), (.var 43), (.var 44), (.var 45), (.var 46), (.var 47), (.var 48), (.var 49), ξr81, ξr85, ξr79, (.var 53), (.var 54), (.var 55), (.var 56), (.var 57), (.var 58), (.var 59), (.var 60), (.var 61), (.var 62), (.var 63), (.var 64)])))))
def Ss_l7Table : List Spec := [SP_l7Part, G_sTableFade.spec, SP_l7Mat, G_sTableOf.spec]
def SP_l7Table : Spec := SP_ptS
set_option maxHeartbeats 2000000 in
theorem sat_l7Table (P : Program) (ins : List Value) (K : List Value → Prop) (_ : TypedL [.int .u8, .sl, .row .i64 1] ins) (h : SP_l7Table ins K) : sat P Ss_l7Table tr_l7Table ins [] K := by
  obtain ⟨k, x, ns, rfl, ho, hK⟩ := h
  unfold pieceT at hK
  by_cases hk : k = 100
  · subst hk
    obtain ⟨p, q, rfl⟩ := ok_two (.inr (.inr (.inr rfl))) ho
    have hp := ok_part (.inr rfl) ho
    rw [if_pos rfl] at hK
    refine ite_t rfl (evs_step (call_step rfl ⟨_, _, p, q, rfl, hp, call_step rfl ⟨trivial, evs_nil ?_⟩⟩))
    refine Eq.mp (congrArg K ?_) hK
    kernel_rfl
  · rw [if_neg hk] at hK
    refine ite_f (beq_f (m := 100) hk) (evs_step (call_step rfl ⟨k, x, ns, rfl, ho, ?_⟩))
    obtain ⟨g, b, e⟩ := pieceM_lit k ns
    rw [e] at hK ⊢
    refine evs_nil ?_
    cases b with
    | false => exact ite_t rfl hK
    | true =>
      refine ite_f rfl (evs_step (call_step rfl ⟨trivial, evs_nil ?_⟩))
      have hK : K (tofW (ivs g 0 12)) := hK
      refine Eq.mp (congrArg K ?_) hK
      kernel_rfl
def tr_iBenchTable : Tr := (.evs [.call 0 [ξr20] none 3] (.evs [.call 1 [ξr3, ξr0, ξr3, ξr3, ξr0, ξr3] none 48] (.lp 0 ξr41 [.int .i64, .bool, .int .i64, .int .i64, .int .i64, .int .i64, .int .i64, .int .i64, .int .i64, .int .i64, .int .i64, .int .i64, .int .i64, .int .i64, .int .i64, .int .i64, .int .i64, .int .i64, .int .i64, .int .i64, .int .i64, .int .i64, .int .i64, .int .i64, .int .i64, .int .i64, .int .i64, .int .i64, .int .i64, .int .i64, .int .i64, .int .i64, .int .i64, .int .i64, .int .i64, .int .i64, .int .i64, .int .i64, .int .i64, .int .i64, .int .i64, .int .i64, .int .i64, .int .i64, .int .i64, .int .i64, .int .i64, .int .i64, .int .i64, .int .i64] (.ite (.cmp .lss ξr79 (.len ξr27)) (.evs [.need [(.inb ξr21 ξr79 3)]] (.evs [.call 2 [(.sel ξr21 ξr79 3 0), (.hd (.sel ξr21 ξr79 3 1)), (.sel ξr21 ξr79 3 2), (.tl (.sel ξr21 ξr79 3 1))] none 49] (.evs ξr7 (.next 0 [(.ar .add .i64 ξr79 ξr3), (.ite (.ite (.var 53) (.var 150) ξr2) (.var 199) ξr2), (.var 151), (.var 152), (.var 153), (.var 154), (.var 155), (.var 156), (.var 157), (.var 158), (.var 159), (.var 160), (.var 161), (.var 162), (.var 163), (.var 164), (.var 165), (.var 166), (.var 167), (.var 168), (.var 169), (.var 170), (.var 171), (.var 172), (.var 173), (.var 174), (.var 175), (.var 176), (.var 177), (.var 178), (.var 179), (.var 180), (.var 181), (.var 182), (.var 183), (.var 184), (.var 185), (.var 186), (.var 187), (.var 188), (.var 189), (.var 190), (.var 191), (.var 192), (.var 193), (.var 194), (.var 195), (.var 196), (.var 197), (.var 198)])))) ξr28))))
def Ss_iBenchTable : List Spec := [SP_readBench, F_iDiag.spec, SP_table, G_iTableTimes.spec]
def unitG (i : Nat) : Int := if i % 3 = 2 then 1 else if i = 0 then 1 else if i = 15 then 1 else if i = 30 then 1 else if i = 45 then 1 else 0
def ttmW (ins : List Value) : List Value := ttW (tabQ (fun k => q3 ins (3 * k)) && tabQ (fun k => q3 ins (48 + 3 * k))) (dotK (fun k => q3 ins (3 * k)) (fun k => q3 ins (48 + 3 * k)))
def ttsT (h g : Nat → Int) : Bool := ttT (tabQ (fun k => q3 (ivs h 0 48 ++ ivs g 0 48) (3 * k)) && tabQ (fun k => q3 (ivs h 0 48 ++ ivs g 0 48) (48 + 3 * k))) (dotK (fun k => q3 (ivs h 0 48 ++ ivs g 0 48) (3 * k)) (fun k => q3 (ivs h 0 48 ++ ivs g 0 48) (48 + 3 * k)))
def ttsN (h g : Nat → Int) : Nat → Int := ttH (tabQ (fun k => q3 (ivs h 0 48 ++ ivs g 0 48) (3 * k)) && tabQ (fun k => q3 (ivs h 0 48 ++ ivs g 0 48) (48 + 3 * k))) (dotK (fun k => q3 (ivs h 0 48 ++ ivs g 0 48) (3 * k)) (fun k => q3 (ivs h 0 48 ++ ivs g 0 48) (48 + 3 * k)))
def stepT (p : Pc) (acc : List Value) : Option (List Value) :=
  if (b0 (pieceT p.k p.ns) 48 && b0 (ttmW ((pieceT p.k p.ns).take 48 ++ acc)) 48) = true then some ((ttmW ((pieceT p.k p.ns).take 48 ++ acc)).take 48) else none
theorem stepT_lit {p : Pc} {h g : Nat → Int} {b : Bool} (e : pieceT p.k p.ns = ivs h 0 48 ++ [.bool b]) : stepT p (ivs g 0 48) = if (b && ttsT h g) = true then some (ivs (ttsN h g) 0 48) else none := by
  unfold stepT
  rw [e]
  rfl
def benchT (acc : Option (List Value)) : List Pc → Option (List Value)
  | [] => acc
  | p :: r => benchT (acc.bind (stepT p)) r
theorem benchT_snoc (p : Pc) : ∀ (l : List Pc) (acc : Option (List Value)), benchT acc (l ++ [p]) = (benchT acc l).bind (stepT p)
  | [], acc => rfl
  | q :: r, acc => benchT_snoc p r _
theorem benchT_none : ∀ l : List Pc, benchT none l = none
  | [] => rfl
  | _ :: r => benchT_none r
theorem benchT_stop {l : List Pc} {i : Nat} {acc : Option (List Value)} (h : benchT acc (l.take i) = none) : benchT acc l = none := by
  have e : l = l.take i ++ l.drop i := (List.take_append_drop i l).symm
  have key : ∀ (a b : List Pc) (acc : Option (List Value)), benchT acc (a ++ b) = benchT (benchT acc a) b := by
    intro a
    induction a with
    | nil => intro b acc; rfl
    | cons p r ih => intro b acc; exact ih b _
  rw [e, key, h, benchT_none]
def BtAt (ps : List Pc) (i : Nat) (ok : Bool) (g : Nat → Int) : Prop := if ok = true then benchT (some (ivs unitG 0 48)) (ps.take i) = some (ivs g 0 48) else benchT (some (ivs unitG 0 48)) (ps.take i) = none
theorem btAt_step {ps : List Pc} {i : Nat} {ok b : Bool} {g h : Nat → Int} {p : Pc} (ha : BtAt ps i ok g) (hp : ps[i]? = some p) (e : pieceT p.k p.ns = ivs h 0 48 ++ [.bool b]) : BtAt ps (i + 1) (ok && b && ttsT h g) (ttsN h g) := by
  unfold BtAt at ha ⊢
  have ht : ps.take (i + 1) = ps.take i ++ [p] := by rw [List.take_add_one, hp]; rfl
  rw [ht, benchT_snoc]
  cases ok with
  | false =>
    have ha : benchT (some (ivs unitG 0 48)) (ps.take i) = none := ha
    rw [ha]
    rfl
  | true =>
    have ha : benchT (some (ivs unitG 0 48)) (ps.take i) = some (ivs g 0 48) := ha
    rw [ha]
    show if (b && ttsT h g) = true then stepT p (ivs g 0 48) = _ else stepT p (ivs g 0 48) = _
    rw [stepT_lit e]
    cases b && ttsT h g <;> rfl
def benchTV (s : List UInt8) : List Value := match benchW s with
  | some ps => (match benchT (some (ivs unitG 0 48)) ps with
    | some acc => acc ++ [.bool true]
    | none => zeros 48 ++ [.bool false])
  | none => zeros 48 ++ [.bool false]
def SP_iBenchTable : Spec := fun ins K => ∃ s, ins = [bv s] ∧ s.length ≤ 2097152 ∧ K (benchTV s)
set_option maxHeartbeats 4000000 in
theorem sat_iBenchTable (P : Program) (ins : List Value) (K : List Value → Prop) (_ : TypedL [.str] ins) (h : SP_iBenchTable ins K) : sat P Ss_iBenchTable tr_iBenchTable ins [] K := by
  obtain ⟨s, rfl, hl, hK⟩ := h
  refine evs_step (call_step rfl ⟨s, rfl, hl, ?_⟩)
  unfold benchTV at hK
  cases hb : benchW s with
  | none =>
    rw [hb] at hK
    refine evs_nil (evs_step (call_step rfl ⟨trivial, evs_nil ?_⟩))
    refine ⟨fun vs => ∃ g : Nat → Int, vs = [.int .i64 0, .bool false] ++ ivs g 0 48, fun _ => 0, ⟨unitG, rfl⟩, ?_⟩
    rintro vs _ ⟨g, rfl⟩
    exact ite_f rfl (ite_t rfl hK)
  | some ps =>
    rw [hb] at hK
    dsimp only at hK
    have hok := benchW_ok hb
    intro a len cap l e1 hsl he
    subst he
    refine evs_nil (evs_step (call_step rfl ⟨trivial, evs_nil ?_⟩))
    refine ⟨fun vs => ∃ (i : Nat) (ok : Bool) (g : Nat → Int), vs = [.int .i64 i, .bool ok] ++ ivs g 0 48 ∧ i ≤ ps.length ∧ BtAt ps i ok g, fun vs => ps.length - (toI (vs.getD 0 undef)).toNat, ⟨0, true, unitG, rfl, by omega, rfl⟩, ?_⟩
    have h12 := (benchW_some hb).1
    have hll : l.length = ps.length := by rw [← e1, List.length_map]
    rintro vs _ ⟨i, ok, g, rfl, hi, hat⟩
    refine ⟨fun hc => ?_, fun hc => ?_⟩
    · have hlt : i < ps.length := by
        have hc : Value.bool (decide ((i : Int) < (ps.length : Int))) = .bool true := hc
        have := bt_of hc; omega
      have hlt2 : i < l.length := by omega
      have hx := List.getElem?_eq_getElem hlt2
      generalize l[i] = x at hx
      have hp : ps[i]? = some x.1 := by rw [← e1, List.getElem?_map, hx]; rfl
      obtain ⟨h, b, e⟩ := pieceT_lit x.1.k x.1.ns
      have hw : IntKind.i64.wrap ((i : Int) + 1) = ((i + 1 : Nat) : Int) := by rw [wrap_in (by omega)]; omega
      refine evs_step (need_step (all_cons (inb_true (c := rowB l) (i := i) (n := 3) (by rw [rowB_size]; omega)) all_nil) (evs_nil ?_))
      refine evs_step (call_step rfl ⟨x.1.k, x.2, bv x.1.t, x.1.ns, ?_, hok _ (List.mem_of_getElem? hp), evs_nil ?_⟩)
      · show [(rowB l).cells.getD ((i : Int).toNat * 3 + 0) undef, hdV ((rowB l).cells.getD ((i : Int).toNat * 3 + 1) undef), (rowB l).cells.getD ((i : Int).toNat * 3 + 2) undef, tlV ((rowB l).cells.getD ((i : Int).toNat * 3 + 1) undef)] = _
        rw [Int.toNat_natCast, rowB_get hx (by omega) rfl, rowB_get hx (by omega) rfl, rowB_get hx (by omega) rfl]
        rfl
      rw [e]
      refine evs_step (call_step rfl ⟨trivial, evs_nil ?_⟩)
      refine ⟨⟨i + 1, ok && b && ttsT h g, ttsN h g, ?_, by omega, btAt_step hat hp e⟩, ?_⟩
      · refine Eq.trans (b := [.int .i64 (IntKind.i64.wrap ((i : Int) + 1)), andV (andV (.bool ok) (.bool b)) (.bool (ttsT h g))] ++ ivs (ttsN h g) 0 48) (by kernel_rfl) ?_
        rw [hw, andV_b, andV_b]
      · show ps.length - (toI (.int .i64 (IntKind.i64.wrap ((i : Int) + 1)))).toNat < ps.length - (toI (.int .i64 (i : Int))).toNat
        rw [hw]
        simp only [toI_int]
        omega
    · have hge : i = ps.length := by
        have hc : Value.bool (decide ((i : Int) < (ps.length : Int))) = .bool false := hc
        have := bf_of hc; omega
      subst hge
      unfold BtAt at hat
      rw [List.take_length] at hat
      cases ok with
      | false =>
        have hat : benchT (some (ivs unitG 0 48)) ps = none := hat
        rw [hat] at hK
        exact ite_t rfl hK
      | true =>
        have hat : benchT (some (ivs unitG 0 48)) ps = some (ivs g 0 48) := hat
        rw [hat] at hK
        exact ite_f rfl hK
def tr_sBenchTable : Tr := (.evs [.call 0 [ξr20] none 3] (.evs [.call 1 [] none 48] (.lp 0 ξr41 [.int .i64, .bool, .int .i64, .int .i64, .int .i64, .int .i64, .int .i64, .int .i64, .int .i64, .int .i64, .int .i64, .int .i64, .int .i64, .int .i64, .int .i64, .int .i64, .int .i64, .int .i64, .int .i64, .int .i64, .int .i64, .int .i64, .int .i64, .int .i64, .int .i64, .int .i64, .int .i64, .int .i64, .int .i64, .int .i64, .int .i64, .int .i64, .int .i64, .int .i64, .int .i64, .int .i64, .int .i64, .int .i64, .int .i64, .int .i64, .int .i64, .int .i64, .int .i64, .int .i64, .int .i64, .int .i64, .int .i64, .int .i64, .int .i64, .int .i64] (.ite (.ite (.cmp .lss ξr79 (.len ξr27)) (.var 53) ξr2) (.evs [.need [(.inb ξr21 ξr79 2)], .call 2 [(.sel ξr21 ξr79 2 0), (.hd (.sel ξr21 ξr79 2 1)), (.tl (.sel ξr21 ξr79 2 1))] none 49] (.evs ξr7 (.next 0 [(.ar .add .i64 ξr79 ξr3), (.ite (.var 150) (.var 199) ξr2), (.var 151), (.var 152), (.var 153), (.var 154), (.var 155), (.var 156), (.var 157), (.var 158), (.var 159), (.var 160), (.var 161), (.var 162), (.var 163), (.var 164), (.var 165), (.var 166), (.var 167), (.var 168), (.var 169), (.var 170), (.var 171), (.var 172), (.var 173), (.var 174), (.var 175), (.var 176), (.var 177), (.var 178), (.var 179), (.var 180), (.var 181), (.var 182), (.var 183), (.var 184), (.var 185), (.var 186), (.var 187), (.var 188), (.var 189), (.var 190), (.var 191), (.var 192), (.var 193), (.var 194), (.var 195), (.var 196), (.var 197), (.var 198)]))) ξr28))))
def Ss_sBenchTable : List Spec := [SP_l7Bench, F_l6tUnit.spec, SP_l7Table, G_sTableTimes.spec]
theorem unit_pre : F_l6tUnit.pre [] := okT_free (by intro F hF ins; simp only [Fs_l6tUnit, List.mem_singleton] at hF; rw [hF]; exact okT_free (fun F hF => by cases hF) _ _ (by kernel_rfl)) _ _ (by kernel_rfl)
def SP_sBenchTable : Spec := fun ins K => ∃ s, ins = [bv s] ∧ K (benchTV s)
set_option maxHeartbeats 4000000 in
theorem sat_sBenchTable (P : Program) (ins : List Value) (K : List Value → Prop) (_ : TypedL [.str] ins) (h : SP_sBenchTable ins K) : sat P Ss_sBenchTable tr_sBenchTable ins [] K := by
  obtain ⟨s, rfl, hK⟩ := h
  refine evs_step (call_step rfl ⟨s, rfl, ?_⟩)
  unfold benchTV at hK
  cases hb : benchW s with
  | none =>
    rw [hb] at hK
    intro x c
    refine evs_nil (evs_step (call_step rfl ⟨unit_pre, evs_nil ?_⟩))
    refine ⟨fun vs => ∃ g : Nat → Int, vs = [.int .i64 0, .bool false] ++ ivs g 0 48, fun _ => 0, ⟨unitG, rfl⟩, ?_⟩
    rintro vs _ ⟨g, rfl⟩
    refine ⟨fun hc => ?_, fun _ => ite_t rfl hK⟩
    have hc : (if toB (Value.bool (decide ((0 : Int) < lenV x))) = true then Value.bool false else .bool false) = .bool true := hc
    split at hc <;> cases hc
  | some ps =>
    rw [hb] at hK
    dsimp only at hK
    have hok := benchW_ok hb
    intro a len cap l e1 hsl he
    subst he
    refine evs_nil (evs_step (call_step rfl ⟨unit_pre, evs_nil ?_⟩))
    refine ⟨fun vs => ∃ (i : Nat) (ok : Bool) (g : Nat → Int), vs = [.int .i64 i, .bool ok] ++ ivs g 0 48 ∧ i ≤ ps.length ∧ BtAt ps i ok g, fun vs => ps.length - (toI (vs.getD 0 undef)).toNat, ⟨0, true, unitG, rfl, by omega, rfl⟩, ?_⟩
    have h12 := (benchW_some hb).1
    have hll : l.length = ps.length := by rw [← e1, List.length_map]
    rintro vs _ ⟨i, ok, g, rfl, hi, hat⟩
    refine ⟨fun hc => ?_, fun hc => ?_⟩
    · have hc : (if toB (Value.bool (decide ((i : Int) < (ps.length : Int)))) = true then Value.bool ok else .bool false) = .bool true := hc
      by_cases hlt : i < ps.length
      · rw [decide_eq_true (by omega)] at hc
        have hc : ok = true := Value.bool.inj hc
        subst hc
        have hlt2 : i < l.length := by omega
        have hx := List.getElem?_eq_getElem hlt2
        generalize l[i] = x at hx
        have hp : ps[i]? = some x.1 := by rw [← e1, List.getElem?_map, hx]; rfl
        obtain ⟨h, b, e⟩ := pieceT_lit x.1.k x.1.ns
        have hw : IntKind.i64.wrap ((i : Int) + 1) = ((i + 1 : Nat) : Int) := by rw [wrap_in (by omega)]; omega
        refine evs_step (need_step (all_cons (inb_true (c := rowL l) (i := i) (n := 2) (by rw [rowL_size]; omega)) all_nil) ?_)
        refine call_step rfl ⟨x.1.k, x.2, x.1.ns, ?_, hok _ (List.mem_of_getElem? hp), evs_nil ?_⟩
        · show [(rowL l).cells.getD ((i : Int).toNat * 2 + 0) undef, hdV ((rowL l).cells.getD ((i : Int).toNat * 2 + 1) undef), tlV ((rowL l).cells.getD ((i : Int).toNat * 2 + 1) undef)] = _
          rw [Int.toNat_natCast, rowL_get hx (by omega) rfl, rowL_get hx (by omega) rfl]
          rfl
        rw [e]
        refine evs_step (call_step rfl ⟨trivial, evs_nil ?_⟩)
        have hst := btAt_step hat hp e
        rw [Bool.true_and] at hst
        refine ⟨⟨i + 1, b && ttsT h g, ttsN h g, ?_, by omega, hst⟩, ?_⟩
        · refine Eq.trans (b := [.int .i64 (IntKind.i64.wrap ((i : Int) + 1)), andV (.bool b) (.bool (ttsT h g))] ++ ivs (ttsN h g) 0 48) (by kernel_rfl) ?_
          rw [hw, andV_b]
        · show ps.length - (toI (.int .i64 (IntKind.i64.wrap ((i : Int) + 1)))).toNat < ps.length - (toI (.int .i64 (i : Int))).toNat
          rw [hw]
          simp only [toI_int]
          omega
      · rw [decide_eq_false (by omega)] at hc
        cases hc
    · have hc : (if toB (Value.bool (decide ((i : Int) < (ps.length : Int)))) = true then Value.bool ok else .bool false) = .bool false := hc
      unfold BtAt at hat
      cases ok with
      | false =>
        have hat : benchT (some (ivs unitG 0 48)) (ps.take i) = none := hat
        rw [benchT_stop hat] at hK
        exact ite_t rfl hK
      | true =>
        have hge : i = ps.length := by
          by_cases hlt : i < ps.length
          · rw [decide_eq_true (by omega)] at hc
            cases hc
          · omega
        subst hge
        have hat : benchT (some (ivs unitG 0 48)) (ps.take ps.length) = some (ivs g 0 48) := hat
        rw [List.take_length] at hat
        rw [hat] at hK
        exact ite_f rfl hK
def tr_DrawBenchTable : Tr := (.evs [.call 0 [ξr20] none 2, .call 1 [ξr5, ξr27, ξr22] none 3] (.ret [ξr21]))
def Ss_DrawBenchTable (cb : CodeB) : List Spec := [(F_openC cb).spec, (SP_l92Bench cb)]
def SP_DrawBenchTable (cb : CodeB) : Spec := benchDraw cb
theorem sat_DrawBenchTable (P : Program) (cb : CodeB) (hk : CodeOk cb) (ins : List Value) (K : List Value → Prop) (_ : TypedL [.sl] ins) (h : SP_DrawBenchTable cb ins K) : sat P (Ss_DrawBenchTable cb) tr_DrawBenchTable ins [] K := by
  obtain ⟨⟨v, rfl, hv⟩, hK⟩ := h
  refine ⟨hv, ?_⟩
  exact ⟨true, openV v, 0, rfl, openV_good hv, by omega, by omega, fun v b' z' h1 _ _ _ => hK _ (sh_mono h1 (by decide))⟩
def tr_FnBenchTable : Tr := (.ite (.cmp .gtr ξr76 (.int .i64 1048576)) (.ret [ξr5]) (.evs [.call 0 [ξr20] none 1] (.evs [.call 1 [ξr27] none 49] (.evs [.call 2 [ξr27] none 49] (.ite (.ite (.ite (.not (.eqb ξr81 (.var 99))) ξr5 (.not ξr14)) ξr5 (.not ξr81)) (.ret [(.ite (.eqb ξr81 (.var 99)) ξr14 ξr2)]) (.evs [.call 3 [ξr27] none 13] (.evs [.call 4 [(.var 100), (.var 101), (.var 102), (.var 103), (.var 104), (.var 105), (.var 106), (.var 107), (.var 108), (.var 109), (.var 110), (.var 111)] none 49] (.evs [.call 5 ξr42 none 4] (.evs [.call 6 ξr42 (some (.ite ξr12 (.not (.not (.var 165))) ξr2)) 1] (.ret [(.ite ξr12 (.ite (.not (.var 165)) ξr5 (.var 166)) ξr2)]))))))))))
def Ss_FnBenchTable (cb : CodeB) : List Spec := [(SP_DrawBenchTable cb), SP_iBenchTable, SP_sBenchTable, SP_iBenchMat, G_iTableOf.spec, F_iTableEnergy.spec, F_iTableKeeps.spec]
def startR (g : Nat → Int) : Option (List Value) := if jonesQ (q3 (ivs g 0 6) 0) (q3 (ivs g 0 6) 3) = true then some (ivs g 0 6) else none
def appW (ins : List Value) : List Value := nttW 2 (matQ (fun k => q3 ins (3 * k)) && jonesQ (q3 ins 12) (q3 ins 15)) (applyD (fun k => q3 ins (3 * k)) (q3 ins 12) (q3 ins 15))
def apT (h g : Nat → Int) : Bool := nttT 2 (matQ (fun k => q3 (ivs h 0 12 ++ ivs g 0 6) (3 * k)) && jonesQ (q3 (ivs h 0 12 ++ ivs g 0 6) 12) (q3 (ivs h 0 12 ++ ivs g 0 6) 15)) (applyD (fun k => q3 (ivs h 0 12 ++ ivs g 0 6) (3 * k)) (q3 (ivs h 0 12 ++ ivs g 0 6) 12) (q3 (ivs h 0 12 ++ ivs g 0 6) 15))
def apN (h g : Nat → Int) : Nat → Int := nttH 2 (matQ (fun k => q3 (ivs h 0 12 ++ ivs g 0 6) (3 * k)) && jonesQ (q3 (ivs h 0 12 ++ ivs g 0 6) 12) (q3 (ivs h 0 12 ++ ivs g 0 6) 15)) (applyD (fun k => q3 (ivs h 0 12 ++ ivs g 0 6) (3 * k)) (q3 (ivs h 0 12 ++ ivs g 0 6) 12) (q3 (ivs h 0 12 ++ ivs g 0 6) 15))
def stepR (p : Pc) (acc : List Value) : Option (List Value) :=
  if (b0 (pieceM p.k p.ns) 12 && b0 (appW ((pieceM p.k p.ns).take 12 ++ acc)) 6) = true then some ((appW ((pieceM p.k p.ns).take 12 ++ acc)).take 6) else none
theorem stepR_lit {p : Pc} {h g : Nat → Int} {b : Bool} (e : pieceM p.k p.ns = ivs h 0 12 ++ [.bool b]) : stepR p (ivs g 0 6) = if (b && apT h g) = true then some (ivs (apN h g) 0 6) else none := by
  unfold stepR
  rw [e]
  rfl
def benchR (acc : Option (List Value)) : List Pc → Option (List Value)
  | [] => acc
  | p :: r => benchR (acc.bind (stepR p)) r
theorem benchR_none : ∀ l : List Pc, benchR none l = none
  | [] => rfl
  | _ :: r => benchR_none r
def benchRV (s : List UInt8) (v : Nat → Int) : List Value := match benchW s with
  | some ps => (match benchR (startR v) ps with
    | some acc => acc ++ [.bool true]
    | none => zeros 6 ++ [.bool false])
  | none => zeros 6 ++ [.bool false]
def matL (l : List Value) : RM := ofQ fun k => q3 l (3 * k)
def okL (l : List Value) : Prop := ∀ k, k < 4 → validQ (q3 l (3 * k)) = true
def pm (p : Pc) : RM := matL (pieceM p.k p.ns)
theorem matL_ivs (h : Nat → Int) (b : Bool) : matL (ivs h 0 12 ++ [.bool b]) = matL (ivs h 0 12) := rfl
theorem mul_valL {h g : Nat → Int} (hT : mulT h g = true) : matL (ivs (mulN h g) 0 12) = (matL (ivs h 0 12)).mul (matL (ivs g 0 12)) ∧ okL (ivs (mulN h g) 0 12) := by
  obtain ⟨ok, d⟩ := nttT_ok (show nttT 4 _ _ = true from hT)
  have eA : ∀ k, k < 4 → q3 (ivs h 0 12 ++ ivs g 0 12) (3 * k) = q3 (ivs h 0 12) (3 * k) := get4 rfl rfl rfl rfl
  have eB : ∀ k, k < 4 → q3 (ivs h 0 12 ++ ivs g 0 12) (12 + 3 * k) = q3 (ivs g 0 12) (3 * k) := get4 rfl rfl rfl rfl
  have eC : ∀ k, k < 4 → q3 (ivs (mulN h g) 0 12) (3 * k) = tri (mulN h g) (3 * k) := get4 rfl rfl rfl rfl
  have hv : ∀ k, k < 4 → mulM (fun k => q3 (ivs h 0 12) (3 * k)) (fun k => q3 (ivs g 0 12) (3 * k)) k = some (q3 (ivs (mulN h g) 0 12) (3 * k)) := fun k hk => by
    obtain ⟨v, hv⟩ := d k hk
    rw [eC k hk, show tri (mulN h g) (3 * k) = v from ntt_tri hT hv, ← mulM_congr eA eB hk]
    exact hv
  exact ⟨ofQ_mul hv, fun k hk => (mul_val hv k hk).2.2⟩
def prodP : List Pc → RM
  | [] => RM.one
  | p :: r => (prodP r).mul (pm p)
theorem stepM_val {p : Pc} {g : Nat → Int} {o : List Value} (h : stepM p (ivs g 0 12) = some o) : ∃ g', o = ivs g' 0 12 ∧ b0 (pieceM p.k p.ns) 12 = true ∧ matL (ivs g' 0 12) = (pm p).mul (matL (ivs g 0 12)) ∧ okL (ivs g' 0 12) := by
  obtain ⟨f, b, e⟩ := pieceM_lit p.k p.ns
  rw [stepM_lit e] at h
  split at h
  · rename_i hc
    rw [Bool.and_eq_true] at hc
    obtain ⟨rfl, hT⟩ := hc
    obtain ⟨v1, v2⟩ := mul_valL hT
    refine ⟨_, (Option.some.inj h).symm, by rw [e]; rfl, ?_, v2⟩
    rw [v1]
    unfold pm
    rw [e]
    rfl
  · cases h
theorem benchM_val : ∀ {l : List Pc} {g : Nat → Int} {o : List Value}, okL (ivs g 0 12) → benchM (some (ivs g 0 12)) l = some o →
    ∃ g', o = ivs g' 0 12 ∧ matL (ivs g' 0 12) = (prodP l).mul (matL (ivs g 0 12)) ∧ okL (ivs g' 0 12) ∧ ∀ p ∈ l, b0 (pieceM p.k p.ns) 12 = true
  | [], g, o, hg, h => ⟨g, (Option.some.inj h).symm, (RM.one_mul _).symm, hg, fun p hp => by cases hp⟩
  | p :: r, g, o, hg, h => by
    have h : benchM (stepM p (ivs g 0 12)) r = some o := h
    cases hs : stepM p (ivs g 0 12) with
    | none => rw [hs, benchM_none] at h; cases h
    | some a =>
      rw [hs] at h
      obtain ⟨g1, rfl, b1, m1, k1⟩ := stepM_val hs
      obtain ⟨g2, rfl, m2, k2, b2⟩ := benchM_val k1 h
      refine ⟨g2, rfl, ?_, k2, fun q hq => ?_⟩
      · rw [m2, m1, prodP, RM.assoc]
      · rcases List.mem_cons.1 hq with rfl | hq
        · exact b1
        · exact b2 q hq
theorem low_some {a c : Int} (ha : -20000 ≤ a ∧ a ≤ 20000) (hc : 1 ≤ c ∧ c ≤ 20000) : ∃ v, lowI a 0 c = some v := by
  have hd : ∀ x g : Int, (x.tdiv g).natAbs ≤ x.natAbs := fun x g => by rw [Int.natAbs_tdiv]; exact Nat.div_le_self _ _
  unfold lowI
  simp only
  have h1 := hd a (gcd3 a 0 c)
  have h2 := hd 0 (gcd3 a 0 c)
  have h3 := hd c (gcd3 a 0 c)
  rw [if_pos]
  · exact ⟨_, rfl⟩
  · simp only [inR, Bool.and_eq_true, decide_eq_true_eq]
    omega
theorem dir_val {p q : Int} (h : dirOk p q = true) : ∃ C S : Q, dirC p q = some C ∧ dirS p q = some S ∧ validQ C = true ∧ validQ S = true ∧ C.2.1 = 0 ∧ S.2.1 = 0 ∧
    reR C = ((p * p - q * q : Int) : Rat) / ((p * p + q * q : Int) : Rat) ∧ reR S = ((2 * p * q : Int) : Rat) / ((p * p + q * q : Int) : Rat) ∧ reR C * reR C + reR S * reR S = 1 := by
  obtain ⟨l1, l2, _, _, _, _, _, _, f1, f2, f3, f4, f5, f6⟩ := dir_facts h
  obtain ⟨C, hC⟩ := low_some (a := p * p - q * q) (c := p * p + q * q) (by omega) ⟨f1, f2⟩
  obtain ⟨S, hS⟩ := low_some (a := 2 * p * q) (c := p * p + q * q) ⟨f5, f6⟩ ⟨f1, f2⟩
  obtain ⟨c1, c2⟩ := low_val f1 hC
  obtain ⟨s1, s2⟩ := low_val f1 hS
  refine ⟨C, S, by unfold dirC; rw [if_pos h]; exact hC, by unfold dirS; rw [if_pos h]; exact hS, low_valid l1 hC, low_valid l2 hS, low_real hC, low_real hS, c1, s1, ?_⟩
  have hn : ((p * p + q * q : Int) : Rat) ≠ 0 := by
    have : p * p + q * q ≠ 0 := by omega
    exact_mod_cast this
  rw [c1, s1]
  simp only [Rat.intCast_mul, Rat.intCast_sub, Rat.intCast_add] at hn ⊢
  have h2 : ((2 : Int) : Rat) = 2 := rfl
  rw [h2]
  generalize (p : Rat) = x at *
  generalize (q : Rat) = y at *
  grind
def dcR (p q : Int) : Rat := reR ((dirC p q).getD zq)
def dsR (p q : Int) : Rat := reR ((dirS p q).getD zq)
theorem cs_one {p q : Int} (h : dirOk p q = true) : dcR p q * dcR p q + dsR p q * dsR p q = 1 := by
  obtain ⟨C, S, hC, hS, _, _, _, _, _, _, h1⟩ := dir_val h
  unfold dcR dsR
  rw [hC, hS]
  exact h1
theorem neg_valid {S : Q} (h : validQ S = true) : validQ (-S.1, S.2.1, S.2.2) = true := by
  obtain ⟨b1, b2, b3⟩ := valid_bounds h
  simp only [validQ, validI, Bool.and_eq_true, beq_iff_eq] at h ⊢
  refine ⟨?_, h.2.1, h.2.2.1, ?_⟩
  · simp only [inR, Bool.and_eq_true, decide_eq_true_eq]; omega
  · have := h.2.2.2
    unfold gcd3 at this ⊢
    rw [Int.natAbs_neg]
    exact this
theorem rot_val {p q : Int} (h : dirOk p q = true) : matL (ivs (rotH p q) 0 12) = rotM (dcR p q) (dsR p q) ∧ okL (ivs (rotH p q) 0 12) := by
  obtain ⟨C, S, hC, hS, vC, vS, iC, iS, _⟩ := dir_val h
  have e0 : q3 (ivs (rotH p q) 0 12) (3 * 0) = C := by
    show (rotH p q 0, rotH p q 1, rotH p q 2) = _
    unfold rotH
    rw [if_pos h, if_pos h, if_pos h, hC]; rfl
  have e1 : q3 (ivs (rotH p q) 0 12) (3 * 1) = (-S.1, S.2.1, S.2.2) := by
    show (rotH p q 3, rotH p q 4, rotH p q 5) = _
    unfold rotH
    rw [if_pos h, if_pos h, if_pos h, hS, iS]; rfl
  have e2 : q3 (ivs (rotH p q) 0 12) (3 * 2) = S := by
    show (rotH p q 6, rotH p q 7, rotH p q 8) = _
    unfold rotH
    rw [if_pos h, if_pos h, if_pos h, hS]; rfl
  have e3 : q3 (ivs (rotH p q) 0 12) (3 * 3) = C := by
    show (rotH p q 9, rotH p q 10, rotH p q 11) = _
    unfold rotH
    rw [if_pos h, if_pos h, if_pos h, hC]; rfl
  refine ⟨?_, get4 (by rw [e0]; exact vC) (by rw [e1]; exact neg_valid vS) (by rw [e2]; exact vS) (by rw [e3]; exact vC)⟩
  unfold matL ofQ
  simp only
  rw [e0, e1, e2, e3]
  have x1 : dcR p q = reR C := by unfold dcR; rw [hC]; rfl
  have x2 : dsR p q = reR S := by unfold dsR; rw [hS]; rfl
  have x3 : reR (-S.1, S.2.1, S.2.2) = - reR S := by unfold reR; rw [Rat.intCast_neg]; grind
  have x4 : imR (-S.1, S.2.1, S.2.2) = 0 := real_val iS
  rw [x1, x2, x3, x4, real_val iC, real_val iS]
  rfl
def adjN (g : Nat → Int) : Nat → Int := adjG (mirQ (q3 (ivs g 0 12) 0)) (mirQ (q3 (ivs g 0 12) 6)) (mirQ (q3 (ivs g 0 12) 3)) (mirQ (q3 (ivs g 0 12) 9))
theorem adj_val {g : Nat → Int} (hg : okL (ivs g 0 12)) : matL (ivs (adjN g) 0 12) = (matL (ivs g 0 12)).adj ∧ okL (ivs (adjN g) 0 12) := by
  have m : ∀ {v : Q}, validQ v = true → mirQ v = some (v.1, -v.2.1, v.2.2) := fun h => by unfold mirQ; rw [if_pos h]
  have h0 := m (hg 0 (by omega))
  have h1 := m (hg 1 (by omega))
  have h2 := m (hg 2 (by omega))
  have h3 := m (hg 3 (by omega))
  have k0 : mirQ (q3 (ivs g 0 12) 0) = _ := h0
  have k1 : mirQ (q3 (ivs g 0 12) 3) = _ := h1
  have k2 : mirQ (q3 (ivs g 0 12) 6) = _ := h2
  have k3 : mirQ (q3 (ivs g 0 12) 9) = _ := h3
  have e : ∀ i, i < 12 → adjN g i = if i = 0 then g 0 else if i = 1 then -g 1 else if i = 2 then g 2 else if i = 3 then g 6 else if i = 4 then -g 7 else if i = 5 then g 8 else if i = 6 then g 3 else if i = 7 then -g 4 else if i = 8 then g 5 else if i = 9 then g 9 else if i = 10 then -g 10 else g 11 := by
    intro i _
    unfold adjN adjG
    rw [k0, k1, k2, k3]
    rfl
  have e0 : q3 (ivs (adjN g) 0 12) (3 * 0) = (g 0, -g 1, g 2) := by
    show (adjN g 0, adjN g 1, adjN g 2) = _
    rw [e 0 (by omega), e 1 (by omega), e 2 (by omega)]; rfl
  have e1 : q3 (ivs (adjN g) 0 12) (3 * 1) = (g 6, -g 7, g 8) := by
    show (adjN g 3, adjN g 4, adjN g 5) = _
    rw [e 3 (by omega), e 4 (by omega), e 5 (by omega)]; rfl
  have e2 : q3 (ivs (adjN g) 0 12) (3 * 2) = (g 3, -g 4, g 5) := by
    show (adjN g 6, adjN g 7, adjN g 8) = _
    rw [e 6 (by omega), e 7 (by omega), e 8 (by omega)]; rfl
  have e3 : q3 (ivs (adjN g) 0 12) (3 * 3) = (g 9, -g 10, g 11) := by
    show (adjN g 9, adjN g 10, adjN g 11) = _
    rw [e 9 (by omega), e 10 (by omega), e 11 (by omega)]; rfl
  refine ⟨?_, get4 (by rw [e0]; exact mir_valid (hg 0 (by omega))) (by rw [e1]; exact mir_valid (hg 2 (by omega))) (by rw [e2]; exact mir_valid (hg 1 (by omega))) (by rw [e3]; exact mir_valid (hg 3 (by omega)))⟩
  have rr : ∀ a b c : Int, reR (a, -b, c) = reR (a, b, c) := fun a b c => rfl
  have ii : ∀ a b c : Int, imR (a, -b, c) = - imR (a, b, c) := fun a b c => by unfold imR; rw [Rat.intCast_neg]; grind
  unfold matL ofQ
  simp only
  rw [e0, e1, e2, e3, rr, rr, rr, rr, ii, ii, ii, ii]
  rfl
def diagN (k : Int) (i : Nat) : Int := if i = 0 then 1 else if i = 2 then 1 else if i = 5 then 1 else if i = 8 then 1 else if i = 9 then (if k = 0 then 1 else if k = 2 then -1 else 0) else if i = 10 then (if k = 1 then 1 else if k = 3 then -1 else 0) else if i = 11 then 1 else 0
theorem diag_val {k : Int} (h0 : 0 ≤ k) (h3 : k ≤ 3) : diagW k = ivs (diagN k) 0 12 ∧ (matL (ivs (diagN k) 0 12)).U ∧ okL (ivs (diagN k) 0 12) := by
  have r0 : reR (0, 0, 1) = 0 := by decide +kernel
  have r1 : reR (1, 0, 1) = 1 := by decide +kernel
  have rm : reR (-1, 0, 1) = -1 := by decide +kernel
  have s0 : reR (0, 1, 1) = 0 := by decide +kernel
  have s1 : reR (0, -1, 1) = 0 := by decide +kernel
  have i0 : imR (0, 0, 1) = 0 := by decide +kernel
  have i1 : imR (1, 0, 1) = 0 := by decide +kernel
  have im : imR (-1, 0, 1) = 0 := by decide +kernel
  have j0 : imR (0, 1, 1) = 1 := by decide +kernel
  have j1 : imR (0, -1, 1) = -1 := by decide +kernel
  rcases (by omega : k = 0 ∨ k = 1 ∨ k = 2 ∨ k = 3) with rfl | rfl | rfl | rfl
  · refine ⟨rfl, ?_, get4 (by decide) (by decide) (by decide) (by decide)⟩
    have : matL (ivs (diagN 0) 0 12) = diagM 1 0 := by
      show (⟨reR (1, 0, 1), reR (0, 0, 1), reR (0, 0, 1), reR (1, 0, 1), imR (1, 0, 1), imR (0, 0, 1), imR (0, 0, 1), imR (1, 0, 1)⟩ : RM) = _
      rw [r0, r1, i0, i1]; rfl
    rw [this]
    exact diag_U (by grind)
  · refine ⟨rfl, ?_, get4 (by decide) (by decide) (by decide) (by decide)⟩
    have : matL (ivs (diagN 1) 0 12) = diagM 0 1 := by
      show (⟨reR (1, 0, 1), reR (0, 0, 1), reR (0, 0, 1), reR (0, 1, 1), imR (1, 0, 1), imR (0, 0, 1), imR (0, 0, 1), imR (0, 1, 1)⟩ : RM) = _
      rw [r0, r1, i0, i1, s0, j0]; rfl
    rw [this]
    exact diag_U (by grind)
  · refine ⟨rfl, ?_, get4 (by decide) (by decide) (by decide) (by decide)⟩
    have : matL (ivs (diagN 2) 0 12) = diagM (-1) 0 := by
      show (⟨reR (1, 0, 1), reR (0, 0, 1), reR (0, 0, 1), reR (-1, 0, 1), imR (1, 0, 1), imR (0, 0, 1), imR (0, 0, 1), imR (-1, 0, 1)⟩ : RM) = _
      rw [r0, r1, i0, i1, rm, im]; rfl
    rw [this]
    exact diag_U (by grind)
  · refine ⟨rfl, ?_, get4 (by decide) (by decide) (by decide) (by decide)⟩
    have : matL (ivs (diagN 3) 0 12) = diagM 0 (-1) := by
      show (⟨reR (1, 0, 1), reR (0, 0, 1), reR (0, 0, 1), reR (0, -1, 1), imR (1, 0, 1), imR (0, 0, 1), imR (0, 0, 1), imR (0, -1, 1)⟩ : RM) = _
      rw [r0, r1, i0, i1, s1, j1]; rfl
    rw [this]
    exact diag_U (by grind)
theorem plate_val {p q k : Int} (hb : b0 (plateV p q k) 12 = true) : (matL (plateV p q k)).U ∧ okL (plateV p q k) := by
  unfold plateV at hb ⊢
  split at hb
  · rename_i hc
    simp only [Bool.and_eq_true, inRg, decide_eq_true_eq] at hc
    obtain ⟨hd, ⟨k0, k3⟩, hA, hM⟩ := hc
    obtain ⟨d1, d2, d3⟩ := diag_val k0 k3
    obtain ⟨r1, r2⟩ := rot_val hd
    obtain ⟨a1, a2⟩ := adj_val r2
    have eA : plA (rotH p q) k = ivs (mulN (rotH p q) (diagN k)) 0 12 ++ [.bool (mulT (rotH p q) (diagN k))] := by
      unfold plA
      rw [d1]
      rfl
    have eM : plM (rotH p q) k = ivs (mulN (mulN (rotH p q) (diagN k)) (adjN (rotH p q))) 0 12 ++ [.bool (mulT (mulN (rotH p q) (diagN k)) (adjN (rotH p q)))] := by
      unfold plM
      rw [eA]
      rfl
    rw [eA] at hA
    rw [eM] at hM
    have hA : mulT (rotH p q) (diagN k) = true := hA
    have hM : mulT (mulN (rotH p q) (diagN k)) (adjN (rotH p q)) = true := hM
    obtain ⟨v1, _⟩ := mul_valL hA
    obtain ⟨v2, v3⟩ := mul_valL hM
    rw [if_pos (by simp only [Bool.and_eq_true, inRg, decide_eq_true_eq]; exact ⟨hd, ⟨k0, k3⟩, by rw [eA]; exact hA, by rw [eM]; exact hM⟩), eM]
    refine ⟨?_, get4 (v3 0 (by omega)) (v3 1 (by omega)) (v3 2 (by omega)) (v3 3 (by omega))⟩
    show (matL (ivs (mulN (mulN (rotH p q) (diagN k)) (adjN (rotH p q))) 0 12)).U
    rw [v2, v1, a1, r1]
    have hr := rot_U (cs_one hd)
    exact RM.U_mul (RM.U_mul hr d2) (RM.U_adj hr)
  · cases hb
theorem filt_val {p q : Int} (hb : b0 (filtW p q) 12 = true) : dirOk p q = true ∧ matL (filtW p q) = filM (dcR p q) (dsR p q) ∧ okL (filtW p q) := by
  have hc : (dirOk p q && ((timesQ ((dirC p q).getD zq) ((dirC p q).getD zq)).isSome && ((timesQ ((dirC p q).getD zq) ((dirS p q).getD zq)).isSome && (timesQ ((dirS p q).getD zq) ((dirS p q).getD zq)).isSome))) = true := hb
  have hc' := hc
  simp only [Bool.and_eq_true] at hc
  obtain ⟨hd, h1, h2, h3⟩ := hc
  obtain ⟨C, S, hC, hS, vC, vS, iC, iS, _⟩ := dir_val hd
  obtain ⟨a, ha⟩ := Option.isSome_iff_exists.1 h1
  obtain ⟨b, hb⟩ := Option.isSome_iff_exists.1 h2
  obtain ⟨d, hd'⟩ := Option.isSome_iff_exists.1 h3
  have e : ∀ i, i < 12 → filtG (dirOk p q) (timesQ ((dirC p q).getD zq) ((dirC p q).getD zq)) (timesQ ((dirC p q).getD zq) ((dirS p q).getD zq)) (timesQ ((dirS p q).getD zq) ((dirS p q).getD zq)) i =
      if i = 0 then a.1 else if i = 1 then a.2.1 else if i = 2 then a.2.2 else if i = 3 then b.1 else if i = 4 then b.2.1 else if i = 5 then b.2.2 else if i = 6 then b.1 else if i = 7 then b.2.1 else if i = 8 then b.2.2 else if i = 9 then d.1 else if i = 10 then d.2.1 else d.2.2 := by
    intro i _
    unfold filtG
    rw [if_pos hc', ha, hb, hd']
    rfl
  have e0 : q3 (filtW p q) (3 * 0) = a := by
    show (filtG _ _ _ _ 0, filtG _ _ _ _ 1, filtG _ _ _ _ 2) = _
    rw [e 0 (by omega), e 1 (by omega), e 2 (by omega)]; rfl
  have e1 : q3 (filtW p q) (3 * 1) = b := by
    show (filtG _ _ _ _ 3, filtG _ _ _ _ 4, filtG _ _ _ _ 5) = _
    rw [e 3 (by omega), e 4 (by omega), e 5 (by omega)]; rfl
  have e2 : q3 (filtW p q) (3 * 2) = b := by
    show (filtG _ _ _ _ 6, filtG _ _ _ _ 7, filtG _ _ _ _ 8) = _
    rw [e 6 (by omega), e 7 (by omega), e 8 (by omega)]; rfl
  have e3 : q3 (filtW p q) (3 * 3) = d := by
    show (filtG _ _ _ _ 9, filtG _ _ _ _ 10, filtG _ _ _ _ 11) = _
    rw [e 9 (by omega), e 10 (by omega), e 11 (by omega)]; rfl
  have x1 : dcR p q = reR C := by unfold dcR; rw [hC]; rfl
  have x2 : dsR p q = reR S := by unfold dsR; rw [hS]; rfl
  rw [hC] at ha hb
  rw [hS] at hb hd'
  have ha : timesQ C C = some a := ha
  have hb : timesQ C S = some b := hb
  have hd' : timesQ S S = some d := hd'
  obtain ⟨a1, a2⟩ := times_val ha
  obtain ⟨b1, b2⟩ := times_val hb
  obtain ⟨d1, d2⟩ := times_val hd'
  have zC := real_val iC
  have zS := real_val iS
  refine ⟨hd, ?_, get4 (by rw [e0]; exact times_valid ha) (by rw [e1]; exact times_valid hb) (by rw [e2]; exact times_valid hb) (by rw [e3]; exact times_valid hd')⟩
  unfold matL ofQ
  simp only
  rw [e0, e1, e2, e3, x1, x2]
  apply RM.eq <;> simp only [filM, a1, a2, b1, b2, d1, d2, zC, zS] <;> grind
theorem share_val {n d : Int} (h : partOk n d) : ∃ v, shareQ [n, d] = some v ∧ validQ v = true ∧ v.2.1 = 0 ∧ 0 ≤ reR v ∧ reR v ≤ 1 := by
  obtain ⟨h0, h1, h2, h3⟩ := h
  obtain ⟨v, hv⟩ := low_some (a := n) (c := d) (by omega) (by omega)
  obtain ⟨v1, v2⟩ := low_val h2 hv
  have hp : (0 : Rat) < (d : Rat) := by
    have : (0 : Int) < d := by omega
    exact_mod_cast this
  refine ⟨v, hv, low_valid (by unfold lowOk; omega) hv, low_real hv, ?_, ?_⟩
  · have : ¬ reR v < 0 := fun hh => by
      rw [v1, Rat.div_lt_iff hp, Rat.zero_mul] at hh
      have : n < 0 := by exact_mod_cast hh
      omega
    grind
  · have : ¬ 1 < reR v := fun hh => by
      rw [v1, Rat.lt_div_iff hp, Rat.one_mul, Rat.intCast_lt_intCast] at hh
      omega
    grind
theorem scal_val {n d : Int} (h : partOk n d) : ∃ a, 0 ≤ a ∧ a ≤ 1 ∧ matL (scalW (shareQ [n, d])) = scaM a ∧ okL (scalW (shareQ [n, d])) := by
  obtain ⟨v, e, hv, hi, h0, h1⟩ := share_val h
  refine ⟨reR v, h0, h1, ?_, ?_⟩
  · rw [e]
    show (⟨reR v, reR (0, 0, 1), reR (0, 0, 1), reR v, imR v, imR (0, 0, 1), imR (0, 0, 1), imR v⟩ : RM) = _
    rw [show reR (0, 0, 1) = 0 by decide +kernel, show imR (0, 0, 1) = 0 by decide +kernel, real_val hi]
    rfl
  · rw [e]
    exact get4 hv (show validQ (0, 0, 1) = true by decide) (show validQ (0, 0, 1) = true by decide) hv
theorem piece_kinds {k : UInt8} {ns : List Int} (ho : okPiece k ns = true) (hb : b0 (pieceM k ns) 12 = true) :
    okL (pieceM k ns) ∧ k ≠ 100 ∧ (((matL (pieceM k ns)).U) ∨ (k = 102 ∧ ∃ c s, c * c + s * s = 1 ∧ matL (pieceM k ns) = filM c s) ∨ (k = 97 ∧ ∃ a, 0 ≤ a ∧ a ≤ 1 ∧ matL (pieceM k ns) = scaM a)) := by
  rcases k_cases k with rfl | rfl | rfl | rfl | rfl | ⟨h1, h2, h3, h4, h5⟩
  · obtain ⟨p, q, rfl⟩ := ok_two (.inl rfl) ho
    have hb : dirOk p q = true := hb
    obtain ⟨r1, r2⟩ := rot_val hb
    refine ⟨get4 (r2 0 (by omega)) (r2 1 (by omega)) (r2 2 (by omega)) (r2 3 (by omega)), by decide, .inl ?_⟩
    show (matL (ivs (rotH p q) 0 12)).U
    rw [r1]
    exact rot_U (cs_one hb)
  · obtain ⟨p, q, rfl⟩ := ok_two (.inr (.inl rfl)) ho
    have hb : b0 (filtW p q) 12 = true := hb
    obtain ⟨hd, f1, f2⟩ := filt_val hb
    exact ⟨f2, by decide, .inr (.inl ⟨rfl, _, _, cs_one hd, f1⟩)⟩
  · obtain ⟨p, q, r, rfl⟩ := ok_three ho
    have hb : b0 (plateV p q r) 12 = true := hb
    obtain ⟨p1, p2⟩ := plate_val hb
    exact ⟨p2, by decide, .inl p1⟩
  · obtain ⟨p, q, rfl⟩ := ok_two (.inr (.inr (.inl rfl))) ho
    obtain ⟨a, a0, a1, a2, a3⟩ := scal_val (ok_part (.inl rfl) ho)
    exact ⟨a3, by decide, .inr (.inr ⟨rfl, a, a0, a1, a2⟩)⟩
  · cases hb
  · rw [ok_other h1 h2 h3 h4 h5] at ho; cases ho
theorem piece_good {k : UInt8} {ns : List Int} (ho : okPiece k ns = true) (hb : b0 (pieceM k ns) 12 = true) : Good (matL (pieceM k ns)).tf := by
  obtain ⟨_, _, h | ⟨_, c, s, h1, h⟩ | ⟨_, a, h0, h1, h⟩⟩ := piece_kinds ho hb
  · exact good_U h
  · rw [h]; exact good_fil h1
  · rw [h]; exact good_sca h0 h1
def vecN (g : Nat → Int) : RV := ofV (q3 (ivs g 0 6) 0) (q3 (ivs g 0 6) 3)
def okV (g : Nat → Int) : Prop := jonesQ (q3 (ivs g 0 6) 0) (q3 (ivs g 0 6) 3) = true
theorem ap_num {h g : Nat → Int} (hT : apT h g = true) : okV g ∧ ∃ v w, q3 (ivs (apN h g) 0 6) 0 = v ∧ q3 (ivs (apN h g) 0 6) 3 = w ∧
    mixQ (q3 (ivs h 0 12 ++ ivs g 0 6) (3 * 0)) (q3 (ivs h 0 12 ++ ivs g 0 6) 12) (q3 (ivs h 0 12 ++ ivs g 0 6) (3 * 1)) (q3 (ivs h 0 12 ++ ivs g 0 6) 15) = some v ∧
    mixQ (q3 (ivs h 0 12 ++ ivs g 0 6) (3 * 2)) (q3 (ivs h 0 12 ++ ivs g 0 6) 12) (q3 (ivs h 0 12 ++ ivs g 0 6) (3 * 3)) (q3 (ivs h 0 12 ++ ivs g 0 6) 15) = some w := by
  unfold apT at hT
  obtain ⟨ok, d⟩ := nttT_ok hT
  rw [Bool.and_eq_true] at ok
  obtain ⟨v, hv⟩ := d 0 (by omega)
  obtain ⟨w, hw⟩ := d 1 (by omega)
  refine ⟨ok.2, v, w, ?_, ?_, hv, hw⟩
  · have := ntt_tri hT hv
    exact this
  · have := ntt_tri hT hw
    exact this
theorem ap_val {h g : Nat → Int} (hT : apT h g = true) : vecN (apN h g) = (matL (ivs h 0 12)).app (vecN g) ∧ okV (apN h g) ∧ okV g := by
  obtain ⟨hg, v, w, e0, e1, hv, hw⟩ := ap_num hT
  have eA : ∀ k, k < 4 → q3 (ivs h 0 12 ++ ivs g 0 6) (3 * k) = q3 (ivs h 0 12) (3 * k) := get4 rfl rfl rfl rfl
  have e12 : q3 (ivs h 0 12 ++ ivs g 0 6) 12 = q3 (ivs g 0 6) 0 := rfl
  have e15 : q3 (ivs h 0 12 ++ ivs g 0 6) 15 = q3 (ivs g 0 6) 3 := rfl
  rw [e12, e15] at hv hw
  rw [eA 0 (by omega), eA 1 (by omega)] at hv
  rw [eA 2 (by omega), eA 3 (by omega)] at hw
  obtain ⟨a1, a2, a3⟩ := mix_val hv
  obtain ⟨b1, b2, b3⟩ := mix_val hw
  refine ⟨?_, ?_, hg⟩
  · unfold vecN
    rw [e0, e1]
    exact RV.eq a1 a2 b1 b2
  · unfold okV jonesQ
    rw [e0, e1, a3, b3]
    rfl
theorem stepR_val {p : Pc} {g : Nat → Int} {o : List Value} (h : stepR p (ivs g 0 6) = some o) : ∃ g', o = ivs g' 0 6 ∧ b0 (pieceM p.k p.ns) 12 = true ∧ vecN g' = (pm p).app (vecN g) ∧ okV g' := by
  obtain ⟨f, b, e⟩ := pieceM_lit p.k p.ns
  rw [stepR_lit e] at h
  split at h
  · rename_i hc
    rw [Bool.and_eq_true] at hc
    obtain ⟨rfl, hT⟩ := hc
    obtain ⟨v1, v2, _⟩ := ap_val hT
    refine ⟨_, (Option.some.inj h).symm, by rw [e]; rfl, ?_, v2⟩
    rw [v1]
    unfold pm
    rw [e]
    rfl
  · cases h
theorem benchR_val : ∀ {l : List Pc} {g : Nat → Int} {o : List Value}, okV g → benchR (some (ivs g 0 6)) l = some o →
    ∃ g', o = ivs g' 0 6 ∧ vecN g' = (prodP l).app (vecN g) ∧ okV g' ∧ ∀ p ∈ l, b0 (pieceM p.k p.ns) 12 = true
  | [], g, o, hg, h => ⟨g, (Option.some.inj h).symm, (RM.app_one _).symm, hg, fun p hp => by cases hp⟩
  | p :: r, g, o, hg, h => by
    have h : benchR (stepR p (ivs g 0 6)) r = some o := h
    cases hs : stepR p (ivs g 0 6) with
    | none => rw [hs, benchR_none] at h; cases h
    | some a =>
      rw [hs] at h
      obtain ⟨g1, rfl, b1, m1, k1⟩ := stepR_val hs
      obtain ⟨g2, rfl, m2, k2, b2⟩ := benchR_val k1 h
      refine ⟨g2, rfl, ?_, k2, fun q hq => ?_⟩
      · rw [m2, m1, prodP, RM.app_mul]
      · rcases List.mem_cons.1 hq with rfl | hq
        · exact b1
        · exact b2 q hq
theorem startR_some {g : Nat → Int} {o : List Value} (h : startR g = some o) : okV g ∧ o = ivs g 0 6 := by
  unfold startR at h
  split at h
  · rename_i hc
    exact ⟨hc, (Option.some.inj h).symm⟩
  · cases h
theorem runV_true {s : List UInt8} {v : Nat → Int} (h : b0 (benchRV s v) 6 = true) : ∃ ps g, benchW s = some ps ∧ okV v ∧ benchR (startR v) ps = some (ivs g 0 6) ∧ benchRV s v = ivs g 0 6 ++ [.bool true] ∧ vecN g = (prodP ps).app (vecN v) ∧ okV g ∧ ∀ p ∈ ps, b0 (pieceM p.k p.ns) 12 = true := by
  unfold benchRV at h ⊢
  cases hb : benchW s with
  | none => rw [hb] at h; cases h
  | some ps =>
    rw [hb] at h
    dsimp only at h ⊢
    cases hs : startR v with
    | none => rw [hs, benchR_none] at h; cases h
    | some a =>
      obtain ⟨hv, rfl⟩ := startR_some hs
      cases hr : benchR (some (ivs v 0 6)) ps with
      | none => rw [hs, hr] at h; cases h
      | some o =>
        obtain ⟨g, rfl, m, k, b⟩ := benchR_val hv hr
        exact ⟨ps, g, rfl, hv, by rw [hr], rfl, m, k, b⟩
theorem oneG_val : matL (ivs oneG 0 12) = RM.one ∧ okL (ivs oneG 0 12) := by
  refine ⟨?_, get4 (by decide) (by decide) (by decide) (by decide)⟩
  show (⟨reR (1, 0, 1), reR (0, 0, 1), reR (0, 0, 1), reR (1, 0, 1), imR (1, 0, 1), imR (0, 0, 1), imR (0, 0, 1), imR (1, 0, 1)⟩ : RM) = _
  rw [show reR (0, 0, 1) = 0 by decide +kernel, show imR (0, 0, 1) = 0 by decide +kernel, show reR (1, 0, 1) = 1 by decide +kernel, show imR (1, 0, 1) = 0 by decide +kernel]
  rfl
theorem matV_true {s : List UInt8} (h : b0 (benchMV s) 12 = true) : ∃ ps g, benchW s = some ps ∧ benchM (some (ivs oneG 0 12)) ps = some (ivs g 0 12) ∧ benchMV s = ivs g 0 12 ++ [.bool true] ∧ matL (ivs g 0 12) = prodP ps ∧ okL (ivs g 0 12) ∧ ∀ p ∈ ps, b0 (pieceM p.k p.ns) 12 = true := by
  unfold benchMV at h ⊢
  cases hb : benchW s with
  | none => rw [hb] at h; cases h
  | some ps =>
    rw [hb] at h
    dsimp only at h ⊢
    cases hr : benchM (some (ivs oneG 0 12)) ps with
    | none => rw [hr] at h; cases h
    | some o =>
      obtain ⟨g, rfl, m, k, b⟩ := benchM_val oneG_val.2 hr
      rw [oneG_val.1, RM.mul_one] at m
      exact ⟨ps, g, rfl, hr, rfl, m, k, b⟩
theorem benchMV_lit (s : List UInt8) : ∃ (g : Nat → Int) (b : Bool), benchMV s = ivs g 0 12 ++ [.bool b] := by
  have key : ∀ (l : List Pc) (acc : Option (List Value)) (o : List Value), (∀ a, acc = some a → ∃ g : Nat → Int, a = ivs g 0 12) → benchM acc l = some o → ∃ g : Nat → Int, o = ivs g 0 12 := by
    intro l
    induction l with
    | nil => intro acc o h1 h2; exact h1 o h2
    | cons p r ih =>
      intro acc o h1 h2
      refine ih _ o ?_ h2
      intro a ha
      obtain ⟨c, hc, h3⟩ := Option.bind_eq_some_iff.1 ha
      obtain ⟨g, rfl⟩ := h1 c hc
      obtain ⟨h, b, e⟩ := pieceM_lit p.k p.ns
      rw [stepM_lit e] at h3
      split at h3
      · exact ⟨_, (Option.some.inj h3).symm⟩
      · cases h3
  unfold benchMV
  split
  · split
    · rename_i o ho
      obtain ⟨g, rfl⟩ := key _ _ _ (fun a ha => ⟨oneG, (Option.some.inj ha).symm⟩) ho
      exact ⟨g, true, rfl⟩
    · exact ⟨fun _ => 0, false, rfl⟩
  · exact ⟨fun _ => 0, false, rfl⟩
theorem ivs_same' {f g : Nat → Int} : ∀ (n k : Nat), (∀ i, k ≤ i → i < k + n → f i = g i) → ivs f k n = ivs g k n
  | 0, _, _ => rfl
  | n + 1, k, h => by
    rw [ivs, ivs, h k (Nat.le_refl _) (by omega), ivs_same' n (k + 1) fun i h1 h2 => h i (by omega) (by omega)]
theorem same_of_tri {f g : Nat → Int} {n : Nat} (h : ∀ k, k < n → tri f (3 * k) = tri g (3 * k)) : ivs f 0 (3 * n) = ivs g 0 (3 * n) :=
  ivs_same' _ _ fun i _ hi => by rw [← cmp_tri f i, ← cmp_tri g i, h (i / 3) (by omega)]
theorem ivs_inj {f g : Nat → Int} {n : Nat} (h : ivs f 0 n = ivs g 0 n) : ∀ i, i < n → f i = g i := by
  intro i hi
  have h1 := ivs_getElem? f n 0 i hi
  rw [h, ivs_getElem? g n 0 i hi] at h1
  have := Option.some.inj h1
  simp only [Nat.zero_add, Value.int.injEq, true_and] at this
  exact this.symm
def tabL (l : List Value) : Nat → Rat := fun k => reR (q3 l (3 * k))
def rlL (l : List Value) (n : Nat) : Prop := ∀ k, k < n → realQ (q3 l (3 * k)) = true
theorem cell48 (g : Nat → Int) : ∀ k, k < 16 → q3 (ivs g 0 48) (3 * k) = tri g (3 * k) := get16 rfl rfl rfl rfl rfl rfl rfl rfl rfl rfl rfl rfl rfl rfl rfl rfl
theorem cell48b (g : Nat → Int) (b : Bool) : ∀ k, k < 16 → q3 (ivs g 0 48 ++ [.bool b]) (3 * k) = q3 (ivs g 0 48) (3 * k) := get16 rfl rfl rfl rfl rfl rfl rfl rfl rfl rfl rfl rfl rfl rfl rfl rfl
theorem tts_val {h g : Nat → Int} (hT : ttsT h g = true) : (∀ k, k < 16 → tabL (ivs (ttsN h g) 0 48) k = tmul (tabL (ivs h 0 48)) (tabL (ivs g 0 48)) k) ∧ rlL (ivs (ttsN h g) 0 48) 16 := by
  obtain ⟨ok, d⟩ := ttT_ok (show ttT _ _ = true from hT)
  rw [Bool.and_eq_true] at ok
  have eA : ∀ k, k < 16 → q3 (ivs h 0 48 ++ ivs g 0 48) (3 * k) = q3 (ivs h 0 48) (3 * k) := get16 rfl rfl rfl rfl rfl rfl rfl rfl rfl rfl rfl rfl rfl rfl rfl rfl
  have eB : ∀ k, k < 16 → q3 (ivs h 0 48 ++ ivs g 0 48) (48 + 3 * k) = q3 (ivs g 0 48) (3 * k) := get16 rfl rfl rfl rfl rfl rfl rfl rfl rfl rfl rfl rfl rfl rfl rfl rfl
  have ra : ∀ k, k < 16 → imR (q3 (ivs h 0 48) (3 * k)) = 0 := fun k hk => by rw [← eA k hk]; exact realQ_im (tab_get ok.1 k hk)
  have rb : ∀ k, k < 16 → imR (q3 (ivs g 0 48) (3 * k)) = 0 := fun k hk => by rw [← eB k hk]; exact realQ_im (tab_get ok.2 k hk)
  have key : ∀ k, k < 16 → tabL (ivs (ttsN h g) 0 48) k = tmul (tabL (ivs h 0 48)) (tabL (ivs g 0 48)) k ∧ realQ (q3 (ivs (ttsN h g) 0 48) (3 * k)) = true := fun k hk => by
    obtain ⟨v, hv⟩ := d k hk
    rw [dotK_congr eA eB hk] at hv
    have ev : q3 (ivs (ttsN h g) 0 48) (3 * k) = v := by
      rw [cell48 _ k hk]
      exact tt_tri (show ttT _ _ = true from hT) (by rw [dotK_congr eA eB hk]; exact hv)
    obtain ⟨v1, v2, v3⟩ := dot_val (show dotQ _ _ = some v from hv) (row_im ra (by omega)) (col_im rb (by omega))
    unfold tabL
    rw [ev]
    exact ⟨v1, realQ_of v3 v2⟩
  exact ⟨fun k hk => (key k hk).1, fun k hk => (key k hk).2⟩
theorem pieceT_val {k : UInt8} {ns : List Int} (ho : okPiece k ns = true) (hb : b0 (pieceT k ns) 48 = true) :
    Good (tabL (pieceT k ns)) ∧ (b0 (pieceM k ns) 12 = true → ∀ i, i < 16 → tabL (pieceT k ns) i = (matL (pieceM k ns)).tf i) := by
  by_cases hk : k = 100
  · subst hk
    obtain ⟨n, d, rfl⟩ := ok_two (.inr (.inr (.inr rfl))) ho
    obtain ⟨v, ev, hv, hi, h0, h1⟩ := share_val (ok_part (.inr rfl) ho)
    have hT : nttT 16 (realQ ((shareQ [n, d]).getD zq)) (fdD ((shareQ [n, d]).getD zq)) = true := hb
    refine ⟨good_congr ?_ (good_fade h0 h1), fun h => by cases h⟩
    intro k hk
    have e : q3 (pieceT 100 [n, d]) (3 * k) = dgF v k := by
      have : ∀ k, k < 16 → q3 (pieceT 100 [n, d]) (3 * k) = tri (nttH 16 (realQ ((shareQ [n, d]).getD zq)) (fdD ((shareQ [n, d]).getD zq))) (3 * k) := get16 rfl rfl rfl rfl rfl rfl rfl rfl rfl rfl rfl rfl rfl rfl rfl rfl
      rw [this k hk, ntt_tri hT (v := dgF v k)]
      rw [ev]; rfl
    unfold tabL
    rw [e]
    unfold dgF fadeT
    split
    · exact oneQ_re.symm
    · split
      · rfl
      · exact nilQ_re.symm
  · have e0 : pieceT k ns = if b0 (pieceM k ns) 12 = true then tofW ((pieceM k ns).take 12) else zeros 48 ++ [.bool false] := by
      unfold pieceT
      rw [if_neg hk]
    rw [e0] at hb
    split at hb
    · rename_i hm
      rw [e0, if_pos hm]
      have key : ∀ i, i < 16 → tabL (tofW ((pieceM k ns).take 12)) i = (matL (pieceM k ns)).tf i := by
        obtain ⟨g, b, e⟩ := pieceM_lit k ns
        rw [e] at hb ⊢
        have hT : nttT 16 (matQ fun k => q3 (ivs g 0 12) (3 * k)) (toD fun k => q3 (ivs g 0 12) (3 * k)) = true := hb
        obtain ⟨_, d⟩ := nttT_ok hT
        intro i hi
        obtain ⟨v, hv⟩ := d i hi
        have : ∀ i, i < 16 → q3 (tofW ((ivs g 0 12 ++ [Value.bool b]).take 12)) (3 * i) = tri (nttH 16 (matQ fun k => q3 (ivs g 0 12) (3 * k)) (toD fun k => q3 (ivs g 0 12) (3 * k))) (3 * i) := get16 rfl rfl rfl rfl rfl rfl rfl rfl rfl rfl rfl rfl rfl rfl rfl rfl
        unfold tabL
        rw [this i hi, ntt_tri hT hv, (toD_val i hi hv).1, matL_ivs]
        exact tf_congr (get4 rfl rfl rfl rfl) (get4 rfl rfl rfl rfl) i hi
      exact ⟨good_congr (fun i hi => (key i hi).symm) (piece_good ho hm), fun _ => key⟩
    · cases hb
theorem stepT_val {p : Pc} {g : Nat → Int} {o : List Value} (h : stepT p (ivs g 0 48) = some o) : ∃ g', o = ivs g' 0 48 ∧ b0 (pieceT p.k p.ns) 48 = true ∧ (∀ k, k < 16 → tabL (ivs g' 0 48) k = tmul (tabL (pieceT p.k p.ns)) (tabL (ivs g 0 48)) k) ∧ rlL (ivs g' 0 48) 16 := by
  obtain ⟨f, b, e⟩ := pieceT_lit p.k p.ns
  rw [stepT_lit e] at h
  split at h
  · rename_i hc
    rw [Bool.and_eq_true] at hc
    obtain ⟨rfl, hT⟩ := hc
    obtain ⟨v1, v2⟩ := tts_val hT
    refine ⟨_, (Option.some.inj h).symm, by rw [e]; rfl, fun k hk => ?_, v2⟩
    rw [v1 k hk, e]
    have c := cell48b f true
    unfold tmul tabL
    rw [c _ (by omega), c _ (by omega), c _ (by omega), c _ (by omega)]
  · cases h
theorem benchT_good : ∀ {l : List Pc} {g : Nat → Int} {o : List Value}, (∀ p ∈ l, okPiece p.k p.ns = true) → Good (tabL (ivs g 0 48)) → rlL (ivs g 0 48) 16 → benchT (some (ivs g 0 48)) l = some o →
    ∃ g', o = ivs g' 0 48 ∧ Good (tabL (ivs g' 0 48)) ∧ rlL (ivs g' 0 48) 16
  | [], g, o, _, hg, hr, h => ⟨g, (Option.some.inj h).symm, hg, hr⟩
  | p :: r, g, o, ho, hg, hr, h => by
    have h : benchT (stepT p (ivs g 0 48)) r = some o := h
    cases hs : stepT p (ivs g 0 48) with
    | none => rw [hs, benchT_none] at h; cases h
    | some a =>
      rw [hs] at h
      obtain ⟨g1, rfl, b1, m1, k1⟩ := stepT_val hs
      have hp := (pieceT_val (ho p List.mem_cons_self) b1).1
      exact benchT_good (fun q hq => ho q (List.mem_cons_of_mem _ hq)) (good_congr (fun k hk => (m1 k hk).symm) (good_mul hp hg)) k1 h
theorem benchT_mat : ∀ {l : List Pc} {g m : Nat → Int} {o : List Value}, (∀ p ∈ l, okPiece p.k p.ns = true) → (∀ p ∈ l, b0 (pieceM p.k p.ns) 12 = true) → (∀ k, k < 16 → tabL (ivs g 0 48) k = (matL (ivs m 0 12)).tf k) → benchT (some (ivs g 0 48)) l = some o →
    ∃ g', o = ivs g' 0 48 ∧ ∀ k, k < 16 → tabL (ivs g' 0 48) k = ((prodP l).mul (matL (ivs m 0 12))).tf k := by
  intro l
  have key : ∀ {l : List Pc} {g : Nat → Int} {M : RM} {o : List Value}, (∀ p ∈ l, okPiece p.k p.ns = true) → (∀ p ∈ l, b0 (pieceM p.k p.ns) 12 = true) → (∀ k, k < 16 → tabL (ivs g 0 48) k = M.tf k) → benchT (some (ivs g 0 48)) l = some o →
      ∃ g', o = ivs g' 0 48 ∧ ∀ k, k < 16 → tabL (ivs g' 0 48) k = ((prodP l).mul M).tf k := by
    intro l
    induction l with
    | nil => intro g M o _ _ hM h; exact ⟨g, (Option.some.inj h).symm, fun k hk => by rw [hM k hk]; show _ = (RM.one.mul M).tf k; rw [RM.one_mul]⟩
    | cons p r ih =>
      intro g M o ho hb hM h
      have h : benchT (stepT p (ivs g 0 48)) r = some o := h
      cases hs : stepT p (ivs g 0 48) with
      | none => rw [hs, benchT_none] at h; cases h
      | some a =>
        rw [hs] at h
        obtain ⟨g1, rfl, b1, m1, _⟩ := stepT_val hs
        have hp := (pieceT_val (ho p List.mem_cons_self) b1).2 (hb p List.mem_cons_self)
        obtain ⟨g2, e2, m2⟩ := ih (M := (pm p).mul M) (fun q hq => ho q (List.mem_cons_of_mem _ hq)) (fun q hq => hb q (List.mem_cons_of_mem _ hq)) (fun k hk => by
          rw [m1 k hk, tf_mul _ _ k hk]
          unfold tmul
          rw [hp _ (by omega), hp _ (by omega), hp _ (by omega), hp _ (by omega), hM _ (by omega), hM _ (by omega), hM _ (by omega), hM _ (by omega)]
          rfl) h
        exact ⟨g2, e2, fun k hk => by rw [m2 k hk, prodP, RM.assoc]⟩
  intro g m o h1 h2 h3 h4
  exact key h1 h2 h3 h4
theorem prod_good : ∀ {l : List Pc}, (∀ p ∈ l, okPiece p.k p.ns = true) → (∀ p ∈ l, b0 (pieceM p.k p.ns) 12 = true) → Good (prodP l).tf
  | [], _, _ => good_congr (fun k hk => (tf_one k hk).symm) good_unit
  | p :: r, ho, hb => good_congr (fun k hk => (tf_mul _ _ k hk).symm) (good_mul (prod_good (fun q hq => ho q (List.mem_cons_of_mem _ hq)) fun q hq => hb q (List.mem_cons_of_mem _ hq)) (piece_good (ho p List.mem_cons_self) (hb p List.mem_cons_self)))
theorem app_power {m : RM} (hm : Good m.tf) (v : RV) : (m.app v).sf 0 ≤ v.sf 0 := by
  rw [sf_app m v 0 (by omega)]
  exact (hm _ (light_sf v.a v.b v.c v.d)).2
theorem benchTV_lit (s : List UInt8) : ∃ (g : Nat → Int) (b : Bool), benchTV s = ivs g 0 48 ++ [.bool b] := by
  have key : ∀ (l : List Pc) (acc : Option (List Value)) (o : List Value), (∀ a, acc = some a → ∃ g : Nat → Int, a = ivs g 0 48) → benchT acc l = some o → ∃ g : Nat → Int, o = ivs g 0 48 := by
    intro l
    induction l with
    | nil => intro acc o h1 h2; exact h1 o h2
    | cons p r ih =>
      intro acc o h1 h2
      refine ih _ o ?_ h2
      intro a ha
      obtain ⟨c, hc, h3⟩ := Option.bind_eq_some_iff.1 ha
      obtain ⟨g, rfl⟩ := h1 c hc
      obtain ⟨h, b, e⟩ := pieceT_lit p.k p.ns
      rw [stepT_lit e] at h3
      split at h3
      · exact ⟨_, (Option.some.inj h3).symm⟩
      · cases h3
  unfold benchTV
  split
  · split
    · rename_i o ho
      obtain ⟨g, rfl⟩ := key _ _ _ (fun a ha => ⟨unitG, (Option.some.inj ha).symm⟩) ho
      exact ⟨g, true, rfl⟩
    · exact ⟨fun _ => 0, false, rfl⟩
  · exact ⟨fun _ => 0, false, rfl⟩
theorem unitG_val : (∀ k, k < 16 → tabL (ivs unitG 0 48) k = unitT k) ∧ rlL (ivs unitG 0 48) 16 := by
  have r0 : reR (0, 0, 1) = 0 := by decide +kernel
  have r1 : reR (1, 0, 1) = 1 := by decide +kernel
  exact ⟨get16 r1 r0 r0 r0 r0 r1 r0 r0 r0 r0 r1 r0 r0 r0 r0 r1, get16 (by decide) (by decide) (by decide) (by decide) (by decide) (by decide) (by decide) (by decide) (by decide) (by decide) (by decide) (by decide) (by decide) (by decide) (by decide) (by decide)⟩
theorem tabV_true {s : List UInt8} (h : b0 (benchTV s) 48 = true) : ∃ ps g, benchW s = some ps ∧ benchT (some (ivs unitG 0 48)) ps = some (ivs g 0 48) ∧ benchTV s = ivs g 0 48 ++ [.bool true] ∧ Good (tabL (ivs g 0 48)) ∧ rlL (ivs g 0 48) 16 := by
  unfold benchTV at h ⊢
  cases hb : benchW s with
  | none => rw [hb] at h; cases h
  | some ps =>
    rw [hb] at h
    dsimp only at h ⊢
    cases hr : benchT (some (ivs unitG 0 48)) ps with
    | none => rw [hr] at h; cases h
    | some o =>
      obtain ⟨g, rfl, g1, g2⟩ := benchT_good (benchW_ok hb) (good_congr (fun k hk => (unitG_val.1 k hk).symm) good_unit) unitG_val.2 hr
      exact ⟨ps, g, rfl, hr, rfl, g1, g2⟩
def tofT (f : Nat → Int) : Bool := nttT 16 (matQ fun k => q3 (ivs f 0 12) (3 * k)) (toD fun k => q3 (ivs f 0 12) (3 * k))
def tofN (f : Nat → Int) : Nat → Int := nttH 16 (matQ fun k => q3 (ivs f 0 12) (3 * k)) (toD fun k => q3 (ivs f 0 12) (3 * k))
theorem table_law {s : List UInt8} {f g : Nat → Int} (hm : benchMV s = ivs f 0 12 ++ [.bool true]) (ht : benchTV s = ivs g 0 48 ++ [.bool true]) (hT : tofT f = true) : ivs (tofN f) 0 48 = ivs g 0 48 := by
  have h1 : b0 (benchMV s) 12 = true := by rw [hm]; rfl
  have h2 : b0 (benchTV s) 48 = true := by rw [ht]; rfl
  obtain ⟨ps, f', e1, _, e2, m1, k1, b1⟩ := matV_true h1
  obtain ⟨qs, g', e3, hr, e4, _, rl⟩ := tabV_true h2
  rw [e1] at e3
  cases e3
  have ef : ivs f' 0 12 = ivs f 0 12 := by rw [hm] at e2; exact (List.append_cancel_right e2).symm
  have eg : ivs g' 0 48 = ivs g 0 48 := by rw [ht] at e4; exact (List.append_cancel_right e4).symm
  obtain ⟨g2, e5, v⟩ := benchT_mat (m := oneG) (benchW_ok e1) b1 (fun k hk => by rw [unitG_val.1 k hk, oneG_val.1, tf_one k hk]) hr
  have e6 : ivs g' 0 48 = ivs g2 0 48 := e5
  rw [eg] at e6 rl
  rw [← e6, oneG_val.1, RM.mul_one, ← m1, ef] at v
  have hT' : nttT 16 (matQ fun k => q3 (ivs f 0 12) (3 * k)) (toD fun k => q3 (ivs f 0 12) (3 * k)) = true := hT
  refine same_of_tri (n := 16) fun k hk => ?_
  obtain ⟨w, hw⟩ := (nttT_ok hT').2 k hk
  have ew : tri (tofN f) (3 * k) = w := ntt_tri hT' hw
  obtain ⟨t1, t2, t3⟩ := toD_val k hk hw
  have hk2 := rl k hk
  have hv := v k hk
  unfold tabL at hv
  rw [cell48 g k hk] at hk2 hv
  rw [ew]
  refine val_inj t3 (realQ_valid hk2) ?_ (by rw [t2, realQ_im hk2])
  rw [t1, hv]
  exact tf_congr (get4 rfl rfl rfl rfl) (get4 rfl rfl rfl rfl) k hk
theorem run_power {s : List UInt8} {v out : Nat → Int} (hr : benchRV s v = ivs out 0 6 ++ [.bool true]) : (vecN out).sf 0 ≤ (vecN v).sf 0 := by
  have h1 : b0 (benchRV s v) 6 = true := by rw [hr]; rfl
  obtain ⟨ps, o, e1, _, _, e2, m1, k1, b1⟩ := runV_true h1
  have eo : ivs o 0 6 = ivs out 0 6 := by rw [hr] at e2; exact (List.append_cancel_right e2).symm
  have ev : vecN o = vecN out := by unfold vecN; rw [eo]
  rw [← ev, m1]
  exact app_power (prod_good (benchW_ok e1) b1) _
theorem allB_mk {p : Nat → Bool} : ∀ (n k : Nat), (∀ i, k ≤ i → i < k + n → p i = true) → allB p k n = true
  | 0, _, _ => rfl
  | n + 1, k, h => by
    rw [allB, h k (Nat.le_refl _) (by omega), Bool.true_and]
    exact allB_mk n (k + 1) fun i h1 h2 => h i (by omega) (by omega)
theorem keeps_law {g : Nat → Int} (hg : Good (tabL (ivs g 0 48))) (h : allB (kOk (ivs g 0 48)) 0 6 = true) : allB (fun k => inUnit (kX (ivs g 0 48) k)) 0 6 = true := by
  refine allB_mk 6 0 fun k _ hk => ?_
  have hk6 : k < 6 := by omega
  obtain ⟨x1, _, x3⟩ := kX_real hk6 (allB_get h k (Nat.zero_le _) (by omega))
  refine (inUnit_iff x1).2 ?_
  have e1 : reR (tri g 0) = tabL (ivs g 0 48) 0 := by unfold tabL; rw [cell48 g 0 (by omega)]
  have e2 : reR (tri g (3 * (1 + k / 2))) = tabL (ivs g 0 48) (1 + k / 2) := by unfold tabL; rw [cell48 g (1 + k / 2) (by omega)]
  rw [x3, e1, e2]
  refine good_kind hg (by omega) (by omega) ?_
  split <;> grind
theorem env_to {P : Program} {specs : List Spec} {t : Tr} {E E1 : List Value} {N : List (List Value → Prop)} {K : List Value → Prop} (e : E = E1) (h : sat P specs t E1 N K) : sat P specs t E N K := e ▸ h
theorem K_to {K : List Value → Prop} {a b : List Value} (e : a = b) (h : K b) : K a := e ▸ h
def tbW (f : Nat → Int) : List Value := ivs (tofN f) 0 48 ++ [.bool (tofT f)]
def tbE (x p : Bool) (f g : Nat → Int) : Value := if toB (if toB (.bool (!p)) = true then Value.bool true else .bool (!x)) = true then Value.bool true else eqL (tofN f) g 0 48
set_option maxHeartbeats 1000000 in
theorem sat_FnBenchTable (P : Program) (cb : CodeB) (hk : CodeOk cb) (ins : List Value) (K : List Value → Prop) (_ : TypedL [.sl] ins) (hp : (lawF cb).pre ins) (hK : K [.bool true]) : sat P (Ss_FnBenchTable cb) tr_FnBenchTable ins [] K := by
  refine law_bench (fun v0 s hs => ?_) hp hK
  obtain ⟨g, t, e⟩ := benchTV_lit s
  refine evs_step (call_step rfl ⟨s, rfl, by omega, ?_⟩)
  rw [e]
  refine evs_nil (evs_step (call_step rfl ⟨s, rfl, ?_⟩))
  rw [e]
  refine evs_nil ?_
  have es : eqL g g 0 48 = .bool true := eqL_true _ _ fun _ _ _ => rfl
  refine ⟨fun _ => ?_, fun hc => ?_⟩
  · refine K_to (b := [if toB (Value.bool (t == t)) = true then eqL g g 0 48 else .bool false]) (by kernel_rfl) ?_
    rw [es, beq_self_eq_true]
    exact hK
  have ht : t = true := by
    have hc : (if toB (if toB (Value.bool (!(t == t))) = true then Value.bool true else .bool (!toB (eqL g g 0 48))) = true then Value.bool true else .bool (!t)) = .bool false := Eq.trans (by kernel_rfl) hc
    rw [es, beq_self_eq_true] at hc
    cases t with
    | true => rfl
    | false => cases hc
  subst ht
  obtain ⟨f, p, ef⟩ := benchMV_lit s
  refine evs_step (call_step rfl ⟨s, rfl, by omega, ?_⟩)
  rw [ef]
  refine evs_nil (evs_step (call_step rfl ⟨trivial, evs_nil ?_⟩))
  refine env_to (E1 := [v0, bv s] ++ (ivs g 0 48 ++ [.bool true]) ++ (ivs g 0 48 ++ [.bool true]) ++ (ivs f 0 12 ++ [.bool p]) ++ tbW f) (by kernel_rfl) ?_
  refine evs_step (call_step rfl ⟨trivial, evs_nil ?_⟩)
  refine env_to (E1 := [v0, bv s] ++ (ivs g 0 48 ++ [.bool true]) ++ (ivs g 0 48 ++ [.bool true]) ++ (ivs f 0 12 ++ [.bool p]) ++ tbW f ++ enV (ivs g 0 48)) (by kernel_rfl) ?_
  have k1 : tbE (tofT f) p f g = .bool true := by
    unfold tbE
    cases p with
    | false => rfl
    | true =>
      cases hT : tofT f with
      | false => rfl
      | true => exact eqL_true _ _ fun i _ hi => ivs_inj (table_law ef e hT) i (by omega)
  have hb : b0 (benchTV s) 48 = true := by rw [e]; rfl
  obtain ⟨_, g', _, _, e2, hg, _⟩ := tabV_true hb
  have eg : ivs g' 0 48 = ivs g 0 48 := by rw [e] at e2; exact (List.append_cancel_right e2).symm
  rw [eg] at hg
  refine evs_step (callg_step rfl (fun h => ⟨trivial, evs_nil ?_⟩) (fun h => evs_nil ?_))
  · have h : toB (if toB (tbE (tofT f) p f g) = true then Value.bool (!!(allB (kOk (ivs g 0 48)) 0 6)) else .bool false) = true := Eq.trans (by kernel_rfl) h
    rw [k1] at h
    have h : (!!(allB (kOk (ivs g 0 48)) 0 6)) = true := h
    rw [Bool.not_not] at h
    refine K_to (b := [if toB (tbE (tofT f) p f g) = true then (if toB (Value.bool (!(allB (kOk (ivs g 0 48)) 0 6))) = true then Value.bool true else Value.bool (allB (kOk (ivs g 0 48)) 0 6 && allB (fun k => inUnit (kX (ivs g 0 48) k)) 0 6)) else .bool false]) (by kernel_rfl) ?_
    rw [k1, h, keeps_law hg h]
    exact hK
  · have h : toB (if toB (tbE (tofT f) p f g) = true then Value.bool (!!(allB (kOk (ivs g 0 48)) 0 6)) else .bool false) = false := Eq.trans (by kernel_rfl) h
    rw [k1] at h
    have h : (!!(allB (kOk (ivs g 0 48)) 0 6)) = false := h
    rw [Bool.not_not] at h
    refine K_to (b := [if toB (tbE (tofT f) p f g) = true then (if toB (Value.bool (!(allB (kOk (ivs g 0 48)) 0 6))) = true then Value.bool true else undef) else .bool false]) (by kernel_rfl) ?_
    rw [k1, h]
    exact hK

end Go.Sx

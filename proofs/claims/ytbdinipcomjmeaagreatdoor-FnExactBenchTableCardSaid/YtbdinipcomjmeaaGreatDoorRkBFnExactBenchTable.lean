import Derived.Test.YtbdinipcomjmeaaGreatDoorRkAFnExactBenchTable
import Derived.KernelRfl
namespace Go.Sx
open Go
set_option maxRecDepth 100000
set_option linter.unusedSimpArgs false
set_option linter.unusedVariables false
def tr_l7One : Tr :=
  (.ite (.cmp .lss (.len (.var 0)) (.int .i64 2))
  (.ret [(.int .u8 0), (.val (.slice none 0 0)), (.bool false), (.val (.agg #[]))])
  (.evs [.need [(.bool true), (.cmp .lss (.int .i64 0) (.len (.var 0)))],
     .app (.val (.agg #[])) 1 (.cells [])]
   (.evs [.need [(.bool true), (.cmp .leq (.int .i64 1) (.len (.var 0))), (.cmp .leq (.len (.var 0)) (.len (.var 0)))],
     .call 0 [(.ssub (.var 0) (.int .i64 1) (.len (.var 0))), (.int .u8 58)] none 2]
   (.lp 0 [(.int .i64 0), (.var 1), (.val (.agg #[]))] [.int .i64, .sl, .row .i64 1]
   (.ite (.cmp .lss (.var 5) (.len (.var 3)))
    (.evs [.need [(.inb (.var 4) (.var 5) 1)],
       .call 1 [(.sel (.var 4) (.var 5) 1 0)] none 2]
     (.ite (.not (.var 9))
     (.ret [(.sidx (.var 0) (.int .i64 0)), (.var 6), (.bool false), (.var 7)])
     (.evs [.app (.var 7) 1 (.cells [(.var 8)])]
      (.next 0 [(.ar .add .i64 (.var 5) (.int .i64 1)), (.var 10), (.var 11)]))))
    (.ite (.cmp .eql (.sidx (.var 0) (.int .i64 0)) (.int .u8 114))
     (.ite (.cmp .eql (.sidx (.var 0) (.int .i64 0)) (.int .u8 114))
      (.ite (.cmp .neq (.len (.var 6)) (.int .i64 2))
       (.ret [(.sidx (.var 0) (.int .i64 0)), (.var 6), (.bool false), (.var 7)])
       (.evs [.need [(.inb (.var 7) (.int .i64 0) 1), (.inb (.var 7) (.int .i64 1) 1)],
          .need [(.inb (.var 7) (.int .i64 0) 1), (.inb (.var 7) (.int .i64 1) 1)],
          .call 2 [(.sel (.var 7) (.int .i64 0) 1 0), (.sel (.var 7) (.int .i64 1) 1 0)] none 7]
        (.ret [(.sidx (.var 0) (.int .i64 0)), (.var 6), (.var 14), (.var 7)])))
      (.ite (.cmp .eql (.sidx (.var 0) (.int .i64 0)) (.int .u8 119))
       (.ite (.cmp .neq (.len (.var 6)) (.int .i64 3))
        (.ret [(.sidx (.var 0) (.int .i64 0)), (.var 6), (.bool false), (.var 7)])
        (.evs [.need [(.inb (.var 7) (.int .i64 0) 1), (.inb (.var 7) (.int .i64 1) 1)],
           .need [(.inb (.var 7) (.int .i64 0) 1), (.inb (.var 7) (.int .i64 1) 1)],
           .call 2 [(.sel (.var 7) (.int .i64 0) 1 0), (.sel (.var 7) (.int .i64 1) 1 0)] none 7]
         (.evs [.need [(.ite (.var 14) (.inb (.var 7) (.int .i64 2) 1) (.bool true))],
           .need [(.ite (.var 14) (.inb (.var 7) (.int .i64 2) 1) (.bool true))],
           .call 3 [(.sel (.var 7) (.int .i64 2) 1 0), (.int .i64 0), (.int .i64 3)] (some (.var 14)) 1]
         (.ret [(.sidx (.var 0) (.int .i64 0)), (.var 6), (.ite (.var 14) (.var 15) (.bool false)), (.var 7)]))))
       (.ite (.cmp .eql (.sidx (.var 0) (.int .i64 0)) (.int .u8 97))
        (.ite (.cmp .eql (.sidx (.var 0) (.int .i64 0)) (.int .u8 97))
         (.evs [.need [(.ite (.cmp .eql (.len (.var 6)) (.int .i64 2)) (.inb (.var 7) (.int .i64 1) 1) (.bool true)), (.ite (.cmp .eql (.len (.var 6)) (.int .i64 2)) (.inb (.var 7) (.int .i64 0) 1) (.bool true)), (.ite (.cmp .eql (.len (.var 6)) (.int .i64 2)) (.inb (.var 7) (.int .i64 1) 1) (.bool true))],
            .need [(.ite (.cmp .eql (.len (.var 6)) (.int .i64 2)) (.inb (.var 7) (.int .i64 1) 1) (.bool true))],
            .call 3 [(.sel (.var 7) (.int .i64 1) 1 0), (.int .i64 1), (.int .i64 100)] (some (.cmp .eql (.len (.var 6)) (.int .i64 2))) 1,
            .need [(.ite (.ite (.cmp .eql (.len (.var 6)) (.int .i64 2)) (.var 8) (.bool false)) (.inb (.var 7) (.int .i64 0) 1) (.bool true)), (.ite (.ite (.cmp .eql (.len (.var 6)) (.int .i64 2)) (.var 8) (.bool false)) (.inb (.var 7) (.int .i64 1) 1) (.bool true))],
            .call 3 [(.sel (.var 7) (.int .i64 0) 1 0), (.int .i64 0), (.sel (.var 7) (.int .i64 1) 1 0)] (some (.ite (.cmp .eql (.len (.var 6)) (.int .i64 2)) (.var 8) (.bool false))) 1]
          (.ret [(.sidx (.var 0) (.int .i64 0)), (.var 6), (.ite (.ite (.cmp .eql (.len (.var 6)) (.int .i64 2)) (.var 8) (.bool false)) (.var 9) (.bool false)), (.var 7)]))
         (.ret [(.sidx (.var 0) (.int .i64 0)), (.var 6), (.bool false), (.var 7)]))
        (.ite (.cmp .eql (.sidx (.var 0) (.int .i64 0)) (.int .u8 100))
         (.evs [.need [(.ite (.cmp .eql (.len (.var 6)) (.int .i64 2)) (.inb (.var 7) (.int .i64 1) 1) (.bool true)), (.ite (.cmp .eql (.len (.var 6)) (.int .i64 2)) (.inb (.var 7) (.int .i64 0) 1) (.bool true)), (.ite (.cmp .eql (.len (.var 6)) (.int .i64 2)) (.inb (.var 7) (.int .i64 1) 1) (.bool true))],
            .need [(.ite (.cmp .eql (.len (.var 6)) (.int .i64 2)) (.inb (.var 7) (.int .i64 1) 1) (.bool true))],
            .call 3 [(.sel (.var 7) (.int .i64 1) 1 0), (.int .i64 1), (.int .i64 100)] (some (.cmp .eql (.len (.var 6)) (.int .i64 2))) 1,
            .need [(.ite (.ite (.cmp .eql (.len (.var 6)) (.int .i64 2)) (.var 8) (.bool false)) (.inb (.var 7) (.int .i64 0) 1) (.bool true)), (.ite (.ite (.cmp .eql (.len (.var 6)) (.int .i64 2)) (.var 8) (.bool false)) (.inb (.var 7) (.int .i64 1) 1) (.bool true))],
            .call 3 [(.sel (.var 7) (.int .i64 0) 1 0), (.int .i64 0), (.sel (.var 7) (.int .i64 1) 1 0)] (some (.ite (.cmp .eql (.len (.var 6)) (.int .i64 2)) (.var 8) (.bool false))) 1]
          (.ret [(.sidx (.var 0) (.int .i64 0)), (.var 6), (.ite (.ite (.cmp .eql (.len (.var 6)) (.int .i64 2)) (.var 8) (.bool false)) (.var 9) (.bool false)), (.var 7)]))
         (.ret [(.sidx (.var 0) (.int .i64 0)), (.var 6), (.bool false), (.var 7)])))))
     (.ite (.cmp .eql (.sidx (.var 0) (.int .i64 0)) (.int .u8 102))
      (.ite (.cmp .neq (.len (.var 6)) (.int .i64 2))
       (.ret [(.sidx (.var 0) (.int .i64 0)), (.var 6), (.bool false), (.var 7)])
       (.evs [.need [(.inb (.var 7) (.int .i64 0) 1), (.inb (.var 7) (.int .i64 1) 1)],
          .need [(.inb (.var 7) (.int .i64 0) 1), (.inb (.var 7) (.int .i64 1) 1)],
          .call 2 [(.sel (.var 7) (.int .i64 0) 1 0), (.sel (.var 7) (.int .i64 1) 1 0)] none 7]
        (.ret [(.sidx (.var 0) (.int .i64 0)), (.var 6), (.var 14), (.var 7)])))
      (.ite (.cmp .eql (.sidx (.var 0) (.int .i64 0)) (.int .u8 119))
       (.ite (.cmp .neq (.len (.var 6)) (.int .i64 3))
        (.ret [(.sidx (.var 0) (.int .i64 0)), (.var 6), (.bool false), (.var 7)])
        (.evs [.need [(.inb (.var 7) (.int .i64 0) 1), (.inb (.var 7) (.int .i64 1) 1)],
           .need [(.inb (.var 7) (.int .i64 0) 1), (.inb (.var 7) (.int .i64 1) 1)],
           .call 2 [(.sel (.var 7) (.int .i64 0) 1 0), (.sel (.var 7) (.int .i64 1) 1 0)] none 7]
         (.evs [.need [(.ite (.var 14) (.inb (.var 7) (.int .i64 2) 1) (.bool true))],
           .need [(.ite (.var 14) (.inb (.var 7) (.int .i64 2) 1) (.bool true))],
           .call 3 [(.sel (.var 7) (.int .i64 2) 1 0), (.int .i64 0), (.int .i64 3)] (some (.var 14)) 1]
         (.ret [(.sidx (.var 0) (.int .i64 0)), (.var 6), (.ite (.var 14) (.var 15) (.bool false)), (.var 7)]))))
       (.ite (.cmp .eql (.sidx (.var 0) (.int .i64 0)) (.int .u8 97))
        (.ite (.cmp .eql (.sidx (.var 0) (.int .i64 0)) (.int .u8 97))
         (.evs [.need [(.ite (.cmp .eql (.len (.var 6)) (.int .i64 2)) (.inb (.var 7) (.int .i64 1) 1) (.bool true)), (.ite (.cmp .eql (.len (.var 6)) (.int .i64 2)) (.inb (.var 7) (.int .i64 0) 1) (.bool true)), (.ite (.cmp .eql (.len (.var 6)) (.int .i64 2)) (.inb (.var 7) (.int .i64 1) 1) (.bool true))],
            .need [(.ite (.cmp .eql (.len (.var 6)) (.int .i64 2)) (.inb (.var 7) (.int .i64 1) 1) (.bool true))],
            .call 3 [(.sel (.var 7) (.int .i64 1) 1 0), (.int .i64 1), (.int .i64 100)] (some (.cmp .eql (.len (.var 6)) (.int .i64 2))) 1,
            .need [(.ite (.ite (.cmp .eql (.len (.var 6)) (.int .i64 2)) (.var 8) (.bool false)) (.inb (.var 7) (.int .i64 0) 1) (.bool true)), (.ite (.ite (.cmp .eql (.len (.var 6)) (.int .i64 2)) (.var 8) (.bool false)) (.inb (.var 7) (.int .i64 1) 1) (.bool true))],
            .call 3 [(.sel (.var 7) (.int .i64 0) 1 0), (.int .i64 0), (.sel (.var 7) (.int .i64 1) 1 0)] (some (.ite (.cmp .eql (.len (.var 6)) (.int .i64 2)) (.var 8) (.bool false))) 1]
          (.ret [(.sidx (.var 0) (.int .i64 0)), (.var 6), (.ite (.ite (.cmp .eql (.len (.var 6)) (.int .i64 2)) (.var 8) (.bool false)) (.var 9) (.bool false)), (.var 7)]))
         (.ret [(.sidx (.var 0) (.int .i64 0)), (.var 6), (.bool false), (.var 7)]))
        (.ite (.cmp .eql (.sidx (.var 0) (.int .i64 0)) (.int .u8 100))
         (.evs [.need [(.ite (.cmp .eql (.len (.var 6)) (.int .i64 2)) (.inb (.var 7) (.int .i64 1) 1) (.bool true)), (.ite (.cmp .eql (.len (.var 6)) (.int .i64 2)) (.inb (.var 7) (.int .i64 0) 1) (.bool true)), (.ite (.cmp .eql (.len (.var 6)) (.int .i64 2)) (.inb (.var 7) (.int .i64 1) 1) (.bool true))],
            .need [(.ite (.cmp .eql (.len (.var 6)) (.int .i64 2)) (.inb (.var 7) (.int .i64 1) 1) (.bool true))],
            .call 3 [(.sel (.var 7) (.int .i64 1) 1 0), (.int .i64 1), (.int .i64 100)] (some (.cmp .eql (.len (.var 6)) (.int .i64 2))) 1,
            .need [(.ite (.ite (.cmp .eql (.len (.var 6)) (.int .i64 2)) (.var 8) (.bool false)) (.inb (.var 7) (.int .i64 0) 1) (.bool true)), (.ite (.ite (.cmp .eql (.len (.var 6)) (.int .i64 2)) (.var 8) (.bool false)) (.inb (.var 7) (.int .i64 1) 1) (.bool true))],
            .call 3 [(.sel (.var 7) (.int .i64 0) 1 0), (.int .i64 0), (.sel (.var 7) (.int .i64 1) 1 0)] (some (.ite (.cmp .eql (.len (.var 6)) (.int .i64 2)) (.var 8) (.bool false))) 1]
          (.ret [(.sidx (.var 0) (.int .i64 0)), (.var 6), (.ite (.ite (.cmp .eql (.len (.var 6)) (.int .i64 2)) (.var 8) (.bool false)) (.var 9) (.bool false)), (.var 7)]))
         (.ret [(.sidx (.var 0) (.int .i64 0)), (.var 6), (.bool false), (.var 7)])))))))))))
def Ss_l7One : List Spec := [SP_l7Cut, SP_l7Number, G_l5Direction.spec, G_l6In.spec]
def SP_l7One : Spec := SP_one
set_option maxHeartbeats 2000000 in
theorem sat_l7One (P : Program) (ins : List Value) (K : List Value → Prop) (_ : TypedL [.str] ins) (h : SP_l7One ins K) : sat P Ss_l7One tr_l7One ins [] K := by
  obtain ⟨s, rfl, hl, hK⟩ := h
  have hlen : lenV (bv s) = (s.length : Int) := len_bv s
  have hno : pieceW snum s = none → ∀ k x c, K [k, x, .bool false, c] := by
    intro hn
    rw [hn] at hK
    exact hK
  refine ⟨fun hc => ?_, fun hc => ?_⟩
  · have hc : Value.bool (decide (lenV (bv s) < 2)) = .bool true := hc
    rw [hlen] at hc
    have hlt := bt_of hc
    refine hno ?_ _ _ _
    match s, hlt with
    | [], _ => rfl
    | [k], _ => rfl
    | _ :: _ :: _, h => simp at h; omega
  · have hc : Value.bool (decide (lenV (bv s) < 2)) = .bool false := hc
    rw [hlen] at hc
    have hge := bf_of hc
    obtain ⟨k, r, rfl⟩ : ∃ k r, s = k :: r := by
      cases s with
      | nil => simp at hge
      | cons k r => exact ⟨k, r, rfl⟩
    have h0l : Value.bool (decide (0 < lenV (bv (k :: r)))) = .bool true := by
      rw [hlen]
      exact bt (by simp only [List.length_cons]; omega)
    refine evs_step (need_step (all_cons rfl (all_cons h0l all_nil)) (app_empty (by omega) fun a1 cap1 => evs_nil ?_))
    refine evs_step (need_step (all_cons rfl (all_cons ?_ (all_cons ?_ all_nil))) (call_step rfl ?_))
    · show Value.bool (decide (1 ≤ lenV (bv (k :: r)))) = _
      rw [hlen]
      exact bt (by simp only [List.length_cons]; omega)
    · show Value.bool (decide (lenV (bv (k :: r)) ≤ lenV (bv (k :: r)))) = _
      exact bt (Int.le_refl _)
    · refine ⟨r, 58, ?_, by simp at hl; omega, fun a2 len2 cap2 hl2 => evs_nil ?_⟩
      · show [Value.string ((strV (bv (k :: r))).extract 1 (lenV (bv (k :: r))).toNat), u8 58] = _
        rw [extract_bv, hlen]
        simp
      subst hl2
      refine ⟨fun vs => ∃ (i : Nat) (a : Option Addr) (cap : Nat) (ns : List Int), vs = [.int .i64 i, .slice a i cap, rowI ns] ∧ i ≤ (cut 58 r).length ∧ numsW snum ((cut 58 r).take i) = some ns, fun vs => (cut 58 r).length - (toI (vs.getD 0 undef)).toNat, ?_, ?_⟩
      · exact ⟨0, a1, cap1, [], rfl, Nat.zero_le _, rfl⟩
      · rintro vs hty ⟨i, a, cap, ns, rfl, hi, hns⟩
        have hnl : ns.length = i := by
          rw [numsW_length hns]; simp; omega
        have hcc := cut_count 58 r
        refine ⟨fun hc => ?_, fun hc => ?_⟩
        · have hlt : i < (cut 58 r).length := by
            have hc : Value.bool (decide ((i : Int) < ((cut 58 r).length : Int))) = .bool true := hc
            have := bt_of hc; omega
          have hx := List.getElem?_eq_getElem hlt
          have hw : IntKind.i64.wrap ((i : Int) + 1) = ((i + 1 : Nat) : Int) := by rw [wrap_in (by simp at hl; omega)]; omega
          have htk : (cut 58 r).take (i + 1) = (cut 58 r).take i ++ [(cut 58 r)[i]] := by rw [List.take_add_one, hx]; rfl
          have hwl := cut_len 58 r _ (List.getElem_mem hlt)
          have hsn := numsW_snoc (nm := snum) (w := (cut 58 r)[i]) (ws := (cut 58 r).take i)
          rw [hns] at hsn
          refine evs_step (need_step (all_cons (inb_true (c := rowS (cut 58 r)) (i := i) (n := 1) (by simp [rowS_cells]; omega)) all_nil) (call_step rfl ?_))
          refine ⟨(cut 58 r)[i], ?_, by simp at hl; omega, ?_⟩
          · show [(rowS (cut 58 r)).cells.getD (((i : Int)).toNat * 1 + 0) undef] = _
            rw [Int.toNat_natCast, rowS_get hx]
          cases hv : snum (cut 58 r)[i] with
          | none =>
            intro z _
            refine evs_nil (ite_t rfl ?_)
            refine hno ?_ _ _ _
            have : numsW snum (cut 58 r) = none := numsW_none hv (List.getElem_mem hlt)
            simp only [pieceW, this]
          | some n =>
            rw [hv] at hsn
            have hsn : numsW snum ((cut 58 r).take i ++ [(cut 58 r)[i]]) = some (ns ++ [n]) := hsn
            refine evs_nil (ite_f rfl ?_)
            refine evs_step (app_step (xs := intVals ns) (ys := [.int .i64 n]) rfl rfl (by rw [intVals_map]; simp; simp at hl; omega) fun a3 len3 cap3 _ hl3 => evs_nil ?_)
            have hl3 : len3 = i + 1 := by rw [intVals_map] at hl3; simp at hl3; omega
            subst hl3
            refine ⟨⟨i + 1, a3, cap3, ns ++ [n], ?_, hlt, by rw [htk]; exact hsn⟩, ?_⟩
            · rw [← rowI_snoc]
              show [Value.int .i64 (IntKind.i64.wrap ((i : Int) + 1)), .slice a3 (i + 1) cap3, Value.agg (intVals ns ++ [Value.int .i64 n]).toArray] = _
              rw [hw]
            · show (cut 58 r).length - (IntKind.i64.wrap ((i : Int) + 1)).toNat < (cut 58 r).length - ((i : Int)).toNat
              rw [hw, Int.toNat_natCast, Int.toNat_natCast]
              omega
        · have hge : i = (cut 58 r).length := by
            have hc : Value.bool (decide ((i : Int) < ((cut 58 r).length : Int))) = .bool false := hc
            have := bf_of hc; omega
          have hns2 : numsW snum (cut 58 r) = some ns := by
            rw [← hns, hge, List.take_length]
          have hdone : ∀ b, okPiece k ns = b → K [u8 k, .slice a i cap, .bool b, rowI ns] := by
            intro b hb
            simp only [pieceW, hns2, hb] at hK
            cases b with
            | true => exact hK a i cap hnl.symm
            | false => exact hK _ _ _
          clear hK hno hc hty hns hns2 hge hcc hi
          subst hnl
          have hneq : ∀ m : Nat, Value.bool ((ns.length : Int) != (m : Int)) = .bool (decide (ns.length ≠ m)) := by
            intro m
            congr 1
            by_cases e : ns.length = m
            · simp [e]
            · simp [e]; omega
          have heq : ∀ m : Nat, Value.bool ((ns.length : Int) == (m : Int)) = .bool (decide (ns.length = m)) := by
            intro m
            congr 1
            by_cases e : ns.length = m
            · simp [e]
            · simp [e]; omega
          rcases k_cases k with rfl | rfl | rfl | rfl | rfl | ⟨k1, k2, k3, k4, k5⟩
          · refine ite_t rfl (ite_t rfl ?_)
            by_cases h2 : ns.length = 2
            · obtain ⟨p, q, rfl⟩ := two_list h2
              refine ite_f rfl (evs_step (need_step (all_cons rfl (all_cons rfl all_nil)) (need_step (all_cons rfl (all_cons rfl all_nil)) (call_step rfl ⟨trivial, evs_nil ?_⟩))))
              exact hdone (dirOk p q) rfl
            · exact ite_t ((hneq 2).trans (bt h2)) (hdone false (ok_len2 (by simp) h2))
          · refine ite_f rfl (ite_t rfl ?_)
            by_cases h2 : ns.length = 2
            · obtain ⟨p, q, rfl⟩ := two_list h2
              refine ite_f rfl (evs_step (need_step (all_cons rfl (all_cons rfl all_nil)) (need_step (all_cons rfl (all_cons rfl all_nil)) (call_step rfl ⟨trivial, evs_nil ?_⟩))))
              exact hdone (dirOk p q) rfl
            · exact ite_t ((hneq 2).trans (bt h2)) (hdone false (ok_len2 (by simp) h2))
          · refine ite_f rfl (ite_f rfl (ite_t rfl ?_))
            by_cases h3 : ns.length = 3
            · obtain ⟨p, q, t, rfl⟩ := three_list h3
              refine ite_f rfl (evs_step (need_step (all_cons rfl (all_cons rfl all_nil)) (need_step (all_cons rfl (all_cons rfl all_nil)) (call_step rfl ⟨trivial, evs_nil ?_⟩))))
              refine evs_step (need_step (all_cons (need_if fun _ => rfl) all_nil) (need_step (all_cons (need_if fun _ => rfl) all_nil) (callg_step rfl (fun hg => ⟨trivial, evs_nil ?_⟩) (fun hg => evs_nil ?_))))
              · have hg : dirOk p q = true := hg
                have := hdone (dirOk p q && inRg t 0 3) rfl
                rw [hg, Bool.true_and] at this
                show K [_, _, (if toB (Value.bool (dirOk p q)) = true then Value.bool (inRg t 0 3) else Value.bool false), _]
                rw [hg]
                exact this
              · have hg : dirOk p q = false := hg
                have := hdone (dirOk p q && inRg t 0 3) rfl
                rw [hg, Bool.false_and] at this
                show K [_, _, (if toB (Value.bool (dirOk p q)) = true then _ else Value.bool false), _]
                rw [hg]
                exact this
            · exact ite_t ((hneq 3).trans (bt h3)) (hdone false (ok_len3 h3))
          · refine ite_f rfl (ite_f rfl (ite_f rfl (ite_t rfl (ite_t rfl ?_))))
            by_cases h2 : ns.length = 2
            · obtain ⟨n, d, rfl⟩ := two_list h2
              refine evs_step (need_step (all_cons (need_if fun _ => rfl) (all_cons (need_if fun _ => rfl) (all_cons (need_if fun _ => rfl) all_nil))) (need_step (all_cons (need_if fun _ => rfl) all_nil) (callg_step rfl (fun _ => ⟨trivial, ?_⟩) (fun hg => (by cases hg)))))
              refine need_step (all_cons (need_if fun _ => rfl) (all_cons (need_if fun _ => rfl) all_nil)) (callg_step rfl (fun hg => ⟨trivial, evs_nil ?_⟩) (fun hg => evs_nil ?_))
              · have hg : inRg d 1 100 = true := hg
                have := hdone (inRg d 1 100 && inRg n 0 d) rfl
                rw [hg, Bool.true_and] at this
                show K [_, _, (if toB (Value.bool (inRg d 1 100)) = true then Value.bool (inRg n 0 d) else Value.bool false), _]
                rw [hg]
                exact this
              · have hg : inRg d 1 100 = false := hg
                have := hdone (inRg d 1 100 && inRg n 0 d) rfl
                rw [hg, Bool.false_and] at this
                show K [_, _, (if toB (Value.bool (inRg d 1 100)) = true then _ else Value.bool false), _]
                rw [hg]
                exact this
            · have e2 : Value.bool ((ns.length : Int) == 2) = .bool false := (heq 2).trans (congrArg Value.bool (decide_eq_false h2))
              have g0 : ¬ toB (Value.bool ((ns.length : Int) == 2)) = true := by rw [e2]; simp
              refine evs_step (need_step (all_cons (need_if fun h => absurd h g0) (all_cons (need_if fun h => absurd h g0) (all_cons (need_if fun h => absurd h g0) all_nil))) (need_step (all_cons (need_if fun h => absurd h g0) all_nil) (callg_step rfl (fun h => absurd h g0) (fun _ => ?_))))
              have g1 : ∀ v : Value, ¬ toB (if toB (Value.bool ((ns.length : Int) == 2)) = true then v else Value.bool false) = true := by
                intro v
                rw [if_neg g0]
                simp
              refine need_step (all_cons (need_if fun h => absurd h (g1 _)) (all_cons (need_if fun h => absurd h (g1 _)) all_nil)) (callg_step rfl (fun h => absurd h (g1 _)) (fun _ => evs_nil ?_))
              show K [_, _, (if toB (if toB (Value.bool ((ns.length : Int) == 2)) = true then undef else Value.bool false) = true then undef else Value.bool false), _]
              rw [if_neg (g1 _)]
              exact hdone false (ok_len2 (by simp) h2)
          · refine ite_f rfl (ite_f rfl (ite_f rfl (ite_f rfl (ite_t rfl ?_))))
            by_cases h2 : ns.length = 2
            · obtain ⟨n, d, rfl⟩ := two_list h2
              refine evs_step (need_step (all_cons (need_if fun _ => rfl) (all_cons (need_if fun _ => rfl) (all_cons (need_if fun _ => rfl) all_nil))) (need_step (all_cons (need_if fun _ => rfl) all_nil) (callg_step rfl (fun _ => ⟨trivial, ?_⟩) (fun hg => (by cases hg)))))
              refine need_step (all_cons (need_if fun _ => rfl) (all_cons (need_if fun _ => rfl) all_nil)) (callg_step rfl (fun hg => ⟨trivial, evs_nil ?_⟩) (fun hg => evs_nil ?_))
              · have hg : inRg d 1 100 = true := hg
                have := hdone (inRg d 1 100 && inRg n 0 d) rfl
                rw [hg, Bool.true_and] at this
                show K [_, _, (if toB (Value.bool (inRg d 1 100)) = true then Value.bool (inRg n 0 d) else Value.bool false), _]
                rw [hg]
                exact this
              · have hg : inRg d 1 100 = false := hg
                have := hdone (inRg d 1 100 && inRg n 0 d) rfl
                rw [hg, Bool.false_and] at this
                show K [_, _, (if toB (Value.bool (inRg d 1 100)) = true then _ else Value.bool false), _]
                rw [hg]
                exact this
            · have e2 : Value.bool ((ns.length : Int) == 2) = .bool false := (heq 2).trans (congrArg Value.bool (decide_eq_false h2))
              have g0 : ¬ toB (Value.bool ((ns.length : Int) == 2)) = true := by rw [e2]; simp
              refine evs_step (need_step (all_cons (need_if fun h => absurd h g0) (all_cons (need_if fun h => absurd h g0) (all_cons (need_if fun h => absurd h g0) all_nil))) (need_step (all_cons (need_if fun h => absurd h g0) all_nil) (callg_step rfl (fun h => absurd h g0) (fun _ => ?_))))
              have g1 : ∀ v : Value, ¬ toB (if toB (Value.bool ((ns.length : Int) == 2)) = true then v else Value.bool false) = true := by
                intro v
                rw [if_neg g0]
                simp
              refine need_step (all_cons (need_if fun h => absurd h (g1 _)) (all_cons (need_if fun h => absurd h (g1 _)) all_nil)) (callg_step rfl (fun h => absurd h (g1 _)) (fun _ => evs_nil ?_))
              show K [_, _, (if toB (if toB (Value.bool ((ns.length : Int) == 2)) = true then undef else Value.bool false) = true then undef else Value.bool false), _]
              rw [if_neg (g1 _)]
              exact hdone false (ok_len2 (by simp) h2)
          · exact ite_f (beq_f k1) (ite_f (beq_f k2) (ite_f (beq_f k3) (ite_f (beq_f k4) (ite_f (beq_f k5) (hdone false (ok_other k1 k2 k3 k4 k5))))))
def tr_l7Bench : Tr :=
  (.evs [.app (.val (.agg #[])) 2 (.cells [])]
  (.ite (.seq (.var 0) (.val (.string ⟨#[]⟩)))
  (.ret [(.var 1), (.bool true), (.val (.agg #[]))])
  (.ite (.cmp .gtr (.len (.var 0)) (.int .i64 300))
   (.ret [(.var 1), (.bool false), (.val (.agg #[]))])
   (.evs [.call 0 [(.var 0), (.int .u8 32)] none 2]
    (.lp 0 [(.int .i64 0), (.var 1), (.val (.agg #[]))] [.int .i64, .sl, .rowC [.int .u8, .fat .i64 1]]
    (.ite (.cmp .lss (.var 5) (.len (.var 3)))
     (.evs [.need [(.inb (.var 4) (.var 5) 1)],
        .call 1 [(.sel (.var 4) (.var 5) 1 0)] none 4]
      (.ite (.not (.var 10))
      (.ret [(.var 6), (.bool false), (.var 7)])
      (.evs [.app (.var 7) 2 (.cells [(.var 8), (.fat (.var 9) (.var 11))])]
       (.next 0 [(.ar .add .i64 (.var 5) (.int .i64 1)), (.var 12), (.var 13)]))))
     (.ret [(.var 6), (.cmp .leq (.len (.var 6)) (.int .i64 12)), (.var 7)])))))))
def Ss_l7Bench : List Spec := [SP_l7Cut, SP_l7One]
def SP_l7Bench : Spec := SP_sb
set_option maxHeartbeats 1000000 in
theorem sat_l7Bench (P : Program) (ins : List Value) (K : List Value → Prop) (_ : TypedL [.str] ins) (h : SP_l7Bench ins K) : sat P Ss_l7Bench tr_l7Bench ins [] K := by
  obtain ⟨s, rfl, hK⟩ := h
  have hlen : lenV (bv s) = (s.length : Int) := len_bv s
  have hno : benchW s = none → ∀ x c, K [x, .bool false, c] := by
    intro hn
    rw [hn] at hK
    exact hK
  refine evs_step (app_empty (by omega) fun a1 cap1 => evs_nil ?_)
  refine ⟨fun hc => ?_, fun hc => ?_⟩
  · have hc : Value.bool ((strV (bv s)).toList == (strV (bv [])).toList) = .bool true := hc
    rw [seq_bv] at hc
    have hs := bt_of hc
    subst hs
    exact hK a1 0 cap1 [] rfl (fun p hp => by cases hp) rfl
  · have hc : Value.bool ((strV (bv s)).toList == (strV (bv [])).toList) = .bool false := hc
    rw [seq_bv] at hc
    have hs := bf_of hc
    clear hc
    refine ⟨fun hc => ?_, fun hc => ?_⟩
    · have hc : Value.bool (decide (lenV (bv s) > 300)) = .bool true := hc
      rw [hlen] at hc
      have hgt := bt_of hc
      refine hno ?_ _ _
      cases hb : benchW s with
      | none => rfl
      | some ps => have := benchW_length hb; omega
    · have hc : Value.bool (decide (lenV (bv s) > 300)) = .bool false := hc
      rw [hlen] at hc
      have hle := bf_of hc
      refine evs_step (call_step rfl ⟨s, 32, rfl, by omega, fun a2 len2 cap2 hl2 => evs_nil ?_⟩)
      subst hl2
      have hcc := cut_count 32 s
      refine ⟨fun vs => ∃ (i : Nat) (a : Option Addr) (cap : Nat) (l : List PV), vs = [.int .i64 i, .slice a i cap, rowL l] ∧ i ≤ (cut 32 s).length ∧ pcsW ((cut 32 s).take i) = some (l.map Prod.fst) ∧ (∀ p ∈ l, SlOk p), fun vs => (cut 32 s).length - (toI (vs.getD 0 undef)).toNat, ?_, ?_⟩
      · exact ⟨0, a1, cap1, [], rfl, Nat.zero_le _, rfl, fun p hp => by cases hp⟩
      · rintro vs hty ⟨i, a, cap, l, rfl, hi, hps, hok⟩
        have hnl : l.length = i := by
          have := (pcsW_length hps).1
          simp at this; omega
        refine ⟨fun hc => ?_, fun hc => ?_⟩
        · have hlt : i < (cut 32 s).length := by
            have hc : Value.bool (decide ((i : Int) < ((cut 32 s).length : Int))) = .bool true := hc
            have := bt_of hc; omega
          have hx := List.getElem?_eq_getElem hlt
          have hw : IntKind.i64.wrap ((i : Int) + 1) = ((i + 1 : Nat) : Int) := by rw [wrap_in (by omega)]; omega
          have htk : (cut 32 s).take (i + 1) = (cut 32 s).take i ++ [(cut 32 s)[i]] := by rw [List.take_add_one, hx]; rfl
          have hwl := cut_len 32 s _ (List.getElem_mem hlt)
          have hsn := pcsW_snoc (w := (cut 32 s)[i]) (ws := (cut 32 s).take i)
          rw [hps] at hsn
          refine evs_step (need_step (all_cons (inb_true (c := rowS (cut 32 s)) (i := i) (n := 1) (by simp [rowS_cells]; omega)) all_nil) (call_step rfl ?_))
          refine ⟨(cut 32 s)[i], ?_, by omega, ?_⟩
          · show [(rowS (cut 32 s)).cells.getD (((i : Int)).toNat * 1 + 0) undef] = _
            rw [Int.toNat_natCast, rowS_get hx]
          rw [pieceW_same]
          cases hv : pieceW num (cut 32 s)[i] with
          | none =>
            intro k x c
            refine evs_nil (ite_t rfl ?_)
            refine hno ?_ _ _
            have : pcsW (cut 32 s) = none := pcsW_none hv (List.getElem_mem hlt)
            unfold benchW
            rw [if_neg hs, this]
          | some p =>
            obtain ⟨k, ns⟩ := p
            rw [hv] at hsn
            have hsn : pcsW ((cut 32 s).take i ++ [(cut 32 s)[i]]) = some (l.map Prod.fst ++ [⟨k, ns, (cut 32 s)[i]⟩]) := hsn
            intro a3 len3 cap3 hl3
            subst hl3
            refine evs_nil (ite_f rfl ?_)
            refine evs_step (app_step (xs := l.flatMap cL) (ys := cL (⟨k, ns, (cut 32 s)[i]⟩, .slice a3 ns.length cap3)) rfl rfl (by rw [flat_length (n := 2) (fun _ => rfl)]; simp [cL]; omega) fun a4 len4 cap4 _ hl4 => evs_nil ?_)
            have hl4 : len4 = i + 1 := by rw [flat_length (n := 2) (fun _ => rfl)] at hl4; simp [cL] at hl4; omega
            subst hl4
            refine ⟨⟨i + 1, a4, cap4, l ++ [(⟨k, ns, (cut 32 s)[i]⟩, .slice a3 ns.length cap3)], ?_, hlt, by rw [htk, hsn]; simp, fun p hp => ?_⟩, ?_⟩
            · rw [← rowL_snoc]
              show [Value.int .i64 (IntKind.i64.wrap ((i : Int) + 1)), .slice a4 (i + 1) cap4, Value.agg (l.flatMap cL ++ cL (⟨k, ns, (cut 32 s)[i]⟩, .slice a3 ns.length cap3)).toArray] = _
              rw [hw]
            · rcases List.mem_append.1 hp with hp | hp
              · exact hok p hp
              · rw [List.mem_singleton.1 hp]
                exact ⟨a3, cap3, rfl⟩
            · show (cut 32 s).length - (IntKind.i64.wrap ((i : Int) + 1)).toNat < (cut 32 s).length - ((i : Int)).toNat
              rw [hw, Int.toNat_natCast, Int.toNat_natCast]
              omega
        · have hge : i = (cut 32 s).length := by
            have hc : Value.bool (decide ((i : Int) < ((cut 32 s).length : Int))) = .bool false := hc
            have := bf_of hc; omega
          rw [hge, List.take_length] at hps
          show K [.slice a i cap, .bool (decide ((i : Int) ≤ 12)), rowL l]
          unfold benchW at hK
          rw [if_neg hs, hps] at hK
          dsimp only at hK
          rw [List.length_map, hnl] at hK
          by_cases h12 : i ≤ 12
          · rw [if_pos h12] at hK
            rw [decide_eq_true (by omega)]
            exact hK a i cap l rfl hok (by simp [hnl])
          · rw [if_neg h12] at hK
            rw [decide_eq_false (by omega)]
            exact hK _ _
def tr_readPiece : Tr :=
  (.ite (.seq (.var 0) (.val (.string ⟨#[]⟩)))
  (.ret [(.int .u8 0), (.val (.slice none 0 0)), (.var 0), (.bool false), (.val (.agg #[]))])
  (.evs [.need [(.bool true), (.cmp .lss (.int .i64 0) (.len (.var 0)))]]
   (.evs [.need [(.bool true), (.cmp .leq (.int .i64 1) (.len (.var 0))), (.cmp .leq (.len (.var 0)) (.len (.var 0)))],
     .call 0 [(.ssub (.var 0) (.int .i64 1) (.len (.var 0))), (.val (.string ⟨#[58]⟩))] none 2]
   (.lp 0 [(.int .i64 0), (.val (.slice none 0 0)), (.val (.agg #[]))] [.int .i64, .sl, .row .i64 1]
   (.ite (.cmp .lss (.var 3) (.len (.var 1)))
    (.evs [.need [(.inb (.var 2) (.var 3) 1)]]
     (.evs [.call 1 [(.sel (.var 2) (.var 3) 1 0)] none 2]
     (.ite (.not (.var 7))
     (.ret [(.sidx (.var 0) (.int .i64 0)), (.var 4), (.var 0), (.bool false), (.var 5)])
     (.evs [.app (.var 5) 1 (.cells [(.var 6)])]
      (.next 0 [(.ar .add .i64 (.var 3) (.int .i64 1)), (.var 8), (.var 9)])))))
    (.ite (.cmp .eql (.sidx (.var 0) (.int .i64 0)) (.int .u8 119))
     (.ite (.cmp .neq (.len (.var 4)) (.int .i64 3))
      (.ret [(.sidx (.var 0) (.int .i64 0)), (.var 4), (.var 0), (.bool false), (.var 5)])
      (.evs [.need [(.inb (.var 5) (.int .i64 0) 1), (.inb (.var 5) (.int .i64 1) 1)],
         .need [(.inb (.var 5) (.int .i64 0) 1), (.inb (.var 5) (.int .i64 1) 1)],
         .call 2 [(.sel (.var 5) (.int .i64 0) 1 0), (.sel (.var 5) (.int .i64 1) 1 0)] none 7]
       (.ite (.cmp .eql (.sidx (.var 0) (.int .i64 0)) (.int .u8 114))
       (.ite (.cmp .eql (.sidx (.var 0) (.int .i64 0)) (.int .u8 114))
        (.ret [(.sidx (.var 0) (.int .i64 0)), (.var 4), (.var 0), (.var 12), (.var 5)])
        (.ite (.cmp .eql (.sidx (.var 0) (.int .i64 0)) (.int .u8 119))
         (.evs [.need [(.ite (.var 12) (.inb (.var 5) (.int .i64 2) 1) (.bool true))],
            .need [(.ite (.var 12) (.inb (.var 5) (.int .i64 2) 1) (.bool true))],
            .call 3 [(.sel (.var 5) (.int .i64 2) 1 0), (.int .i64 0), (.int .i64 3)] (some (.var 12)) 1]
          (.ret [(.sidx (.var 0) (.int .i64 0)), (.var 4), (.var 0), (.ite (.var 12) (.var 13) (.bool false)), (.var 5)]))
         (.ite (.cmp .eql (.sidx (.var 0) (.int .i64 0)) (.int .u8 97))
          (.ite (.cmp .eql (.sidx (.var 0) (.int .i64 0)) (.int .u8 97))
           (.evs [.need [(.inb (.var 5) (.int .i64 1) 1)],
              .call 3 [(.sel (.var 5) (.int .i64 1) 1 0), (.int .i64 1), (.int .i64 100)] none 1,
              .need [(.ite (.var 13) (.inb (.var 5) (.int .i64 0) 1) (.bool true)), (.ite (.var 13) (.inb (.var 5) (.int .i64 1) 1) (.bool true))],
              .call 3 [(.sel (.var 5) (.int .i64 0) 1 0), (.int .i64 0), (.sel (.var 5) (.int .i64 1) 1 0)] (some (.var 13)) 1]
            (.ret [(.sidx (.var 0) (.int .i64 0)), (.var 4), (.var 0), (.ite (.var 13) (.var 14) (.bool false)), (.var 5)]))
           (.ret [(.sidx (.var 0) (.int .i64 0)), (.var 4), (.var 0), (.bool false), (.var 5)]))
          (.ite (.cmp .eql (.sidx (.var 0) (.int .i64 0)) (.int .u8 100))
           (.evs [.need [(.inb (.var 5) (.int .i64 1) 1)],
              .call 3 [(.sel (.var 5) (.int .i64 1) 1 0), (.int .i64 1), (.int .i64 100)] none 1,
              .need [(.ite (.var 13) (.inb (.var 5) (.int .i64 0) 1) (.bool true)), (.ite (.var 13) (.inb (.var 5) (.int .i64 1) 1) (.bool true))],
              .call 3 [(.sel (.var 5) (.int .i64 0) 1 0), (.int .i64 0), (.sel (.var 5) (.int .i64 1) 1 0)] (some (.var 13)) 1]
            (.ret [(.sidx (.var 0) (.int .i64 0)), (.var 4), (.var 0), (.ite (.var 13) (.var 14) (.bool false)), (.var 5)]))
           (.ret [(.sidx (.var 0) (.int .i64 0)), (.var 4), (.var 0), (.bool false), (.var 5)])))))
       (.ite (.cmp .eql (.sidx (.var 0) (.int .i64 0)) (.int .u8 102))
        (.ret [(.sidx (.var 0) (.int .i64 0)), (.var 4), (.var 0), (.var 12), (.var 5)])
        (.ite (.cmp .eql (.sidx (.var 0) (.int .i64 0)) (.int .u8 119))
         (.evs [.need [(.ite (.var 12) (.inb (.var 5) (.int .i64 2) 1) (.bool true))],
            .need [(.ite (.var 12) (.inb (.var 5) (.int .i64 2) 1) (.bool true))],
            .call 3 [(.sel (.var 5) (.int .i64 2) 1 0), (.int .i64 0), (.int .i64 3)] (some (.var 12)) 1]
          (.ret [(.sidx (.var 0) (.int .i64 0)), (.var 4), (.var 0), (.ite (.var 12) (.var 13) (.bool false)), (.var 5)]))
         (.ite (.cmp .eql (.sidx (.var 0) (.int .i64 0)) (.int .u8 97))
          (.ite (.cmp .eql (.sidx (.var 0) (.int .i64 0)) (.int .u8 97))
           (.evs [.need [(.inb (.var 5) (.int .i64 1) 1)],
              .call 3 [(.sel (.var 5) (.int .i64 1) 1 0), (.int .i64 1), (.int .i64 100)] none 1,
              .need [(.ite (.var 13) (.inb (.var 5) (.int .i64 0) 1) (.bool true)), (.ite (.var 13) (.inb (.var 5) (.int .i64 1) 1) (.bool true))],
              .call 3 [(.sel (.var 5) (.int .i64 0) 1 0), (.int .i64 0), (.sel (.var 5) (.int .i64 1) 1 0)] (some (.var 13)) 1]
            (.ret [(.sidx (.var 0) (.int .i64 0)), (.var 4), (.var 0), (.ite (.var 13) (.var 14) (.bool false)), (.var 5)]))
           (.ret [(.sidx (.var 0) (.int .i64 0)), (.var 4), (.var 0), (.bool false), (.var 5)]))
          (.ite (.cmp .eql (.sidx (.var 0) (.int .i64 0)) (.int .u8 100))
           (.evs [.need [(.inb (.var 5) (.int .i64 1) 1)],
              .call 3 [(.sel (.var 5) (.int .i64 1) 1 0), (.int .i64 1), (.int .i64 100)] none 1,
              .need [(.ite (.var 13) (.inb (.var 5) (.int .i64 0) 1) (.bool true)), (.ite (.var 13) (.inb (.var 5) (.int .i64 1) 1) (.bool true))],
              .call 3 [(.sel (.var 5) (.int .i64 0) 1 0), (.int .i64 0), (.sel (.var 5) (.int .i64 1) 1 0)] (some (.var 13)) 1]
            (.ret [(.sidx (.var 0) (.int .i64 0)), (.var 4), (.var 0), (.ite (.var 13) (.var 14) (.bool false)), (.var 5)]))
           (.ret [(.sidx (.var 0) (.int .i64 0)), (.var 4), (.var 0), (.bool false), (.var 5)]))))))))
     (.ite (.cmp .neq (.len (.var 4)) (.int .i64 2))
      (.ret [(.sidx (.var 0) (.int .i64 0)), (.var 4), (.var 0), (.bool false), (.var 5)])
      (.evs [.need [(.inb (.var 5) (.int .i64 0) 1), (.inb (.var 5) (.int .i64 1) 1)],
         .need [(.inb (.var 5) (.int .i64 0) 1), (.inb (.var 5) (.int .i64 1) 1)],
         .call 2 [(.sel (.var 5) (.int .i64 0) 1 0), (.sel (.var 5) (.int .i64 1) 1 0)] none 7]
       (.ite (.cmp .eql (.sidx (.var 0) (.int .i64 0)) (.int .u8 114))
       (.ite (.cmp .eql (.sidx (.var 0) (.int .i64 0)) (.int .u8 114))
        (.ret [(.sidx (.var 0) (.int .i64 0)), (.var 4), (.var 0), (.var 12), (.var 5)])
        (.ite (.cmp .eql (.sidx (.var 0) (.int .i64 0)) (.int .u8 119))
         (.evs [.need [(.ite (.var 12) (.inb (.var 5) (.int .i64 2) 1) (.bool true))],
            .need [(.ite (.var 12) (.inb (.var 5) (.int .i64 2) 1) (.bool true))],
            .call 3 [(.sel (.var 5) (.int .i64 2) 1 0), (.int .i64 0), (.int .i64 3)] (some (.var 12)) 1]
          (.ret [(.sidx (.var 0) (.int .i64 0)), (.var 4), (.var 0), (.ite (.var 12) (.var 13) (.bool false)), (.var 5)]))
         (.ite (.cmp .eql (.sidx (.var 0) (.int .i64 0)) (.int .u8 97))
          (.ite (.cmp .eql (.sidx (.var 0) (.int .i64 0)) (.int .u8 97))
           (.evs [.need [(.inb (.var 5) (.int .i64 1) 1)],
              .call 3 [(.sel (.var 5) (.int .i64 1) 1 0), (.int .i64 1), (.int .i64 100)] none 1,
              .need [(.ite (.var 13) (.inb (.var 5) (.int .i64 0) 1) (.bool true)), (.ite (.var 13) (.inb (.var 5) (.int .i64 1) 1) (.bool true))],
              .call 3 [(.sel (.var 5) (.int .i64 0) 1 0), (.int .i64 0), (.sel (.var 5) (.int .i64 1) 1 0)] (some (.var 13)) 1]
            (.ret [(.sidx (.var 0) (.int .i64 0)), (.var 4), (.var 0), (.ite (.var 13) (.var 14) (.bool false)), (.var 5)]))
           (.ret [(.sidx (.var 0) (.int .i64 0)), (.var 4), (.var 0), (.bool false), (.var 5)]))
          (.ite (.cmp .eql (.sidx (.var 0) (.int .i64 0)) (.int .u8 100))
           (.evs [.need [(.inb (.var 5) (.int .i64 1) 1)],
              .call 3 [(.sel (.var 5) (.int .i64 1) 1 0), (.int .i64 1), (.int .i64 100)] none 1,
              .need [(.ite (.var 13) (.inb (.var 5) (.int .i64 0) 1) (.bool true)), (.ite (.var 13) (.inb (.var 5) (.int .i64 1) 1) (.bool true))],
              .call 3 [(.sel (.var 5) (.int .i64 0) 1 0), (.int .i64 0), (.sel (.var 5) (.int .i64 1) 1 0)] (some (.var 13)) 1]
            (.ret [(.sidx (.var 0) (.int .i64 0)), (.var 4), (.var 0), (.ite (.var 13) (.var 14) (.bool false)), (.var 5)]))
           (.ret [(.sidx (.var 0) (.int .i64 0)), (.var 4), (.var 0), (.bool false), (.var 5)])))))
       (.ite (.cmp .eql (.sidx (.var 0) (.int .i64 0)) (.int .u8 102))
        (.ret [(.sidx (.var 0) (.int .i64 0)), (.var 4), (.var 0), (.var 12), (.var 5)])
        (.ite (.cmp .eql (.sidx (.var 0) (.int .i64 0)) (.int .u8 119))
         (.evs [.need [(.ite (.var 12) (.inb (.var 5) (.int .i64 2) 1) (.bool true))],
            .need [(.ite (.var 12) (.inb (.var 5) (.int .i64 2) 1) (.bool true))],
            .call 3 [(.sel (.var 5) (.int .i64 2) 1 0), (.int .i64 0), (.int .i64 3)] (some (.var 12)) 1]
          (.ret [(.sidx (.var 0) (.int .i64 0)), (.var 4), (.var 0), (.ite (.var 12) (.var 13) (.bool false)), (.var 5)]))
         (.ite (.cmp .eql (.sidx (.var 0) (.int .i64 0)) (.int .u8 97))
          (.ite (.cmp .eql (.sidx (.var 0) (.int .i64 0)) (.int .u8 97))
           (.evs [.need [(.inb (.var 5) (.int .i64 1) 1)],
              .call 3 [(.sel (.var 5) (.int .i64 1) 1 0), (.int .i64 1), (.int .i64 100)] none 1,
              .need [(.ite (.var 13) (.inb (.var 5) (.int .i64 0) 1) (.bool true)), (.ite (.var 13) (.inb (.var 5) (.int .i64 1) 1) (.bool true))],
              .call 3 [(.sel (.var 5) (.int .i64 0) 1 0), (.int .i64 0), (.sel (.var 5) (.int .i64 1) 1 0)] (some (.var 13)) 1]
            (.ret [(.sidx (.var 0) (.int .i64 0)), (.var 4), (.var 0), (.ite (.var 13) (.var 14) (.bool false)), (.var 5)]))
           (.ret [(.sidx (.var 0) (.int .i64 0)), (.var 4), (.var 0), (.bool false), (.var 5)]))
          (.ite (.cmp .eql (.sidx (.var 0) (.int .i64 0)) (.int .u8 100))
           (.evs [.need [(.inb (.var 5) (.int .i64 1) 1)],
              .call 3 [(.sel (.var 5) (.int .i64 1) 1 0), (.int .i64 1), (.int .i64 100)] none 1,
              .need [(.ite (.var 13) (.inb (.var 5) (.int .i64 0) 1) (.bool true)), (.ite (.var 13) (.inb (.var 5) (.int .i64 1) 1) (.bool true))],
              .call 3 [(.sel (.var 5) (.int .i64 0) 1 0), (.int .i64 0), (.sel (.var 5) (.int .i64 1) 1 0)] (some (.var 13)) 1]
            (.ret [(.sidx (.var 0) (.int .i64 0)), (.var 4), (.var 0), (.ite (.var 13) (.var 14) (.bool false)), (.var 5)]))
           (.ret [(.sidx (.var 0) (.int .i64 0)), (.var 4), (.var 0), (.bool false), (.var 5)]))))))))))))))
def Ss_readPiece : List Spec := [SP_Split, SP_plainNumber, G_direction.spec, G_within.spec]
def SP_readPiece : Spec := SP_rp
set_option maxHeartbeats 2000000 in
theorem sat_readPiece (P : Program) (ins : List Value) (K : List Value → Prop) (_ : TypedL [.str] ins) (h : SP_readPiece ins K) : sat P Ss_readPiece tr_readPiece ins [] K := by
  obtain ⟨s, rfl, hl, hK⟩ := h
  have hlen : lenV (bv s) = (s.length : Int) := len_bv s
  have hno : pieceW num s = none → ∀ k x t c, K [k, x, t, .bool false, c] := by
    intro hn
    rw [hn] at hK
    exact hK
  refine ⟨fun hc => ?_, fun hc => ?_⟩
  · have hc : Value.bool ((strV (bv s)).toList == (strV (bv [])).toList) = .bool true := hc
    rw [seq_bv] at hc
    have hs := bt_of hc
    subst hs
    exact hno rfl _ _ _ _
  · have hc : Value.bool ((strV (bv s)).toList == (strV (bv [])).toList) = .bool false := hc
    rw [seq_bv] at hc
    have hs := bf_of hc
    obtain ⟨k, r, rfl⟩ : ∃ k r, s = k :: r := by
      cases s with
      | nil => exact absurd rfl hs
      | cons k r => exact ⟨k, r, rfl⟩
    have h0l : Value.bool (decide (0 < lenV (bv (k :: r)))) = .bool true := by
      rw [hlen]
      exact bt (by simp only [List.length_cons]; omega)
    refine evs_step (need_step (all_cons rfl (all_cons h0l all_nil)) (evs_nil ?_))
    refine evs_step (need_step (all_cons rfl (all_cons ?_ (all_cons ?_ all_nil))) (call_step rfl ?_))
    · show Value.bool (decide (1 ≤ lenV (bv (k :: r)))) = _
      rw [hlen]
      exact bt (by simp only [List.length_cons]; omega)
    · show Value.bool (decide (lenV (bv (k :: r)) ≤ lenV (bv (k :: r)))) = _
      exact bt (Int.le_refl _)
    · refine ⟨r, 58, ?_, by simp at hl; omega, fun a2 len2 cap2 hl2 => evs_nil ?_⟩
      · show [Value.string ((strV (bv (k :: r))).extract 1 (lenV (bv (k :: r))).toNat), bv [58]] = _
        rw [extract_bv, hlen]
        simp
      subst hl2
      refine ⟨fun vs => ∃ (i : Nat) (a : Option Addr) (cap : Nat) (ns : List Int), vs = [.int .i64 i, .slice a i cap, rowI ns] ∧ i ≤ (cut 58 r).length ∧ numsW num ((cut 58 r).take i) = some ns, fun vs => (cut 58 r).length - (toI (vs.getD 0 undef)).toNat, ?_, ?_⟩
      · exact ⟨0, none, 0, [], rfl, Nat.zero_le _, rfl⟩
      · rintro vs hty ⟨i, a, cap, ns, rfl, hi, hns⟩
        have hnl : ns.length = i := by
          rw [numsW_length hns]; simp; omega
        have hcc := cut_count 58 r
        refine ⟨fun hc => ?_, fun hc => ?_⟩
        · have hlt : i < (cut 58 r).length := by
            have hc : Value.bool (decide ((i : Int) < ((cut 58 r).length : Int))) = .bool true := hc
            have := bt_of hc; omega
          have hx := List.getElem?_eq_getElem hlt
          have hw : IntKind.i64.wrap ((i : Int) + 1) = ((i + 1 : Nat) : Int) := by rw [wrap_in (by simp at hl; omega)]; omega
          have htk : (cut 58 r).take (i + 1) = (cut 58 r).take i ++ [(cut 58 r)[i]] := by rw [List.take_add_one, hx]; rfl
          have hwl := cut_len 58 r _ (List.getElem_mem hlt)
          have hsn := numsW_snoc (nm := num) (w := (cut 58 r)[i]) (ws := (cut 58 r).take i)
          rw [hns] at hsn
          refine evs_step (need_step (all_cons (inb_true (c := rowS (cut 58 r)) (i := i) (n := 1) (by simp [rowS_cells]; omega)) all_nil) (evs_nil ?_))
          refine evs_step (call_step rfl ?_)
          refine ⟨(cut 58 r)[i], ?_, by simp at hl; omega, ?_⟩
          · show [(rowS (cut 58 r)).cells.getD (((i : Int)).toNat * 1 + 0) undef] = _
            rw [Int.toNat_natCast, rowS_get hx]
          cases hv : num (cut 58 r)[i] with
          | none =>
            intro z _
            refine evs_nil (ite_t rfl ?_)
            refine hno ?_ _ _ _ _
            have : numsW num (cut 58 r) = none := numsW_none hv (List.getElem_mem hlt)
            simp only [pieceW, this]
          | some n =>
            rw [hv] at hsn
            have hsn : numsW num ((cut 58 r).take i ++ [(cut 58 r)[i]]) = some (ns ++ [n]) := hsn
            refine evs_nil (ite_f rfl ?_)
            refine evs_step (app_step (xs := intVals ns) (ys := [.int .i64 n]) rfl rfl (by rw [intVals_map]; simp; simp at hl; omega) fun a3 len3 cap3 _ hl3 => evs_nil ?_)
            have hl3 : len3 = i + 1 := by rw [intVals_map] at hl3; simp at hl3; omega
            subst hl3
            refine ⟨⟨i + 1, a3, cap3, ns ++ [n], ?_, hlt, by rw [htk]; exact hsn⟩, ?_⟩
            · rw [← rowI_snoc]
              show [Value.int .i64 (IntKind.i64.wrap ((i : Int) + 1)), .slice a3 (i + 1) cap3, Value.agg (intVals ns ++ [Value.int .i64 n]).toArray] = _
              rw [hw]
            · show (cut 58 r).length - (IntKind.i64.wrap ((i : Int) + 1)).toNat < (cut 58 r).length - ((i : Int)).toNat
              rw [hw, Int.toNat_natCast, Int.toNat_natCast]
              omega
        · have hge : i = (cut 58 r).length := by
            have hc : Value.bool (decide ((i : Int) < ((cut 58 r).length : Int))) = .bool false := hc
            have := bf_of hc; omega
          have hns2 : numsW num (cut 58 r) = some ns := by
            rw [← hns, hge, List.take_length]
          have hdone : ∀ b, okPiece k ns = b → K [u8 k, .slice a i cap, bv (k :: r), .bool b, rowI ns] := by
            intro b hb
            simp only [pieceW, hns2, hb] at hK
            cases b with
            | true => exact hK a i cap hnl.symm
            | false => exact hK _ _ _ _
          clear hK hno hc hty hns hns2 hge hcc hi
          subst hnl
          have hneq : ∀ m : Nat, Value.bool ((ns.length : Int) != (m : Int)) = .bool (decide (ns.length ≠ m)) := by
            intro m
            congr 1
            by_cases e : ns.length = m
            · simp [e]
            · simp [e]; omega
          rcases k_cases k with rfl | rfl | rfl | rfl | rfl | ⟨k1, k2, k3, k4, k5⟩
          · refine ite_f rfl ?_
            by_cases h2 : ns.length = 2
            · obtain ⟨p, q, rfl⟩ := two_list h2
              refine ite_f rfl (evs_step (need_step (all_cons rfl (all_cons rfl all_nil)) (need_step (all_cons rfl (all_cons rfl all_nil)) (call_step rfl ⟨trivial, evs_nil ?_⟩))))
              refine ite_t rfl (ite_t rfl ?_)
              exact hdone (dirOk p q) rfl
            · exact ite_t ((hneq 2).trans (bt h2)) (hdone false (ok_len2 (by simp) h2))
          · refine ite_f rfl ?_
            by_cases h2 : ns.length = 2
            · obtain ⟨p, q, rfl⟩ := two_list h2
              refine ite_f rfl (evs_step (need_step (all_cons rfl (all_cons rfl all_nil)) (need_step (all_cons rfl (all_cons rfl all_nil)) (call_step rfl ⟨trivial, evs_nil ?_⟩))))
              refine ite_f rfl (ite_t rfl ?_)
              exact hdone (dirOk p q) rfl
            · exact ite_t ((hneq 2).trans (bt h2)) (hdone false (ok_len2 (by simp) h2))
          · refine ite_t rfl ?_
            by_cases h3 : ns.length = 3
            · obtain ⟨p, q, t, rfl⟩ := three_list h3
              refine ite_f rfl (evs_step (need_step (all_cons rfl (all_cons rfl all_nil)) (need_step (all_cons rfl (all_cons rfl all_nil)) (call_step rfl ⟨trivial, evs_nil ?_⟩))))
              refine ite_f rfl (ite_f rfl (ite_t rfl ?_))
              refine evs_step (need_step (all_cons (need_if fun _ => rfl) all_nil) (need_step (all_cons (need_if fun _ => rfl) all_nil) (callg_step rfl (fun hg => ⟨trivial, evs_nil ?_⟩) (fun hg => evs_nil ?_))))
              · have hg : dirOk p q = true := hg
                have := hdone (dirOk p q && inRg t 0 3) rfl
                rw [hg, Bool.true_and] at this
                show K [_, _, _, (if toB (Value.bool (dirOk p q)) = true then Value.bool (inRg t 0 3) else Value.bool false), _]
                rw [hg]
                exact this
              · have hg : dirOk p q = false := hg
                have := hdone (dirOk p q && inRg t 0 3) rfl
                rw [hg, Bool.false_and] at this
                show K [_, _, _, (if toB (Value.bool (dirOk p q)) = true then _ else Value.bool false), _]
                rw [hg]
                exact this
            · exact ite_t ((hneq 3).trans (bt h3)) (hdone false (ok_len3 h3))
          · refine ite_f rfl ?_
            by_cases h2 : ns.length = 2
            · obtain ⟨n, d, rfl⟩ := two_list h2
              refine ite_f rfl (evs_step (need_step (all_cons rfl (all_cons rfl all_nil)) (need_step (all_cons rfl (all_cons rfl all_nil)) (call_step rfl ⟨trivial, evs_nil ?_⟩))))
              refine ite_f rfl (ite_f rfl (ite_f rfl (ite_t rfl (ite_t rfl ?_))))
              refine evs_step (need_step (all_cons rfl all_nil) (call_step rfl ⟨trivial, ?_⟩))
              refine need_step (all_cons (need_if fun _ => rfl) (all_cons (need_if fun _ => rfl) all_nil)) (callg_step rfl (fun hg => ⟨trivial, evs_nil ?_⟩) (fun hg => evs_nil ?_))
              · have hg : inRg d 1 100 = true := hg
                have := hdone (inRg d 1 100 && inRg n 0 d) rfl
                rw [hg, Bool.true_and] at this
                show K [_, _, _, (if toB (Value.bool (inRg d 1 100)) = true then Value.bool (inRg n 0 d) else Value.bool false), _]
                rw [hg]
                exact this
              · have hg : inRg d 1 100 = false := hg
                have := hdone (inRg d 1 100 && inRg n 0 d) rfl
                rw [hg, Bool.false_and] at this
                show K [_, _, _, (if toB (Value.bool (inRg d 1 100)) = true then _ else Value.bool false), _]
                rw [hg]
                exact this
            · exact ite_t ((hneq 2).trans (bt h2)) (hdone false (ok_len2 (by simp) h2))
          · refine ite_f rfl ?_
            by_cases h2 : ns.length = 2
            · obtain ⟨n, d, rfl⟩ := two_list h2
              refine ite_f rfl (evs_step (need_step (all_cons rfl (all_cons rfl all_nil)) (need_step (all_cons rfl (all_cons rfl all_nil)) (call_step rfl ⟨trivial, evs_nil ?_⟩))))
              refine ite_f rfl (ite_f rfl (ite_f rfl (ite_f rfl (ite_t rfl ?_))))
              refine evs_step (need_step (all_cons rfl all_nil) (call_step rfl ⟨trivial, ?_⟩))
              refine need_step (all_cons (need_if fun _ => rfl) (all_cons (need_if fun _ => rfl) all_nil)) (callg_step rfl (fun hg => ⟨trivial, evs_nil ?_⟩) (fun hg => evs_nil ?_))
              · have hg : inRg d 1 100 = true := hg
                have := hdone (inRg d 1 100 && inRg n 0 d) rfl
                rw [hg, Bool.true_and] at this
                show K [_, _, _, (if toB (Value.bool (inRg d 1 100)) = true then Value.bool (inRg n 0 d) else Value.bool false), _]
                rw [hg]
                exact this
              · have hg : inRg d 1 100 = false := hg
                have := hdone (inRg d 1 100 && inRg n 0 d) rfl
                rw [hg, Bool.false_and] at this
                show K [_, _, _, (if toB (Value.bool (inRg d 1 100)) = true then _ else Value.bool false), _]
                rw [hg]
                exact this
            · exact ite_t ((hneq 2).trans (bt h2)) (hdone false (ok_len2 (by simp) h2))
          · refine ite_f (beq_f k3) ?_
            by_cases h2 : ns.length = 2
            · obtain ⟨p, q, rfl⟩ := two_list h2
              refine ite_f rfl (evs_step (need_step (all_cons rfl (all_cons rfl all_nil)) (need_step (all_cons rfl (all_cons rfl all_nil)) (call_step rfl ⟨trivial, evs_nil ?_⟩))))
              exact ite_f (beq_f k1) (ite_f (beq_f k2) (ite_f (beq_f k3) (ite_f (beq_f k4) (ite_f (beq_f k5) (hdone false (ok_other k1 k2 k3 k4 k5))))))
            · exact ite_t ((hneq 2).trans (bt h2)) (hdone false (ok_other k1 k2 k3 k4 k5))
def tr_readBench : Tr :=
  (.evs [.app (.val (.agg #[])) 3 (.cells [])]
  (.ite (.seq (.var 0) (.val (.string ⟨#[]⟩)))
  (.ret [(.var 1), (.bool true), (.val (.agg #[]))])
  (.evs [.call 0 [(.var 0), (.val (.string ⟨#[32]⟩))] none 2]
   (.lp 0 [(.int .i64 0), (.var 1), (.val (.agg #[]))] [.int .i64, .sl, .rowC [.int .u8, .fat .i64 1, .str]]
   (.ite (.cmp .lss (.var 5) (.len (.var 3)))
    (.evs [.need [(.inb (.var 4) (.var 5) 1)]]
     (.evs [.call 1 [(.sel (.var 4) (.var 5) 1 0)] none 5]
     (.ite (.ite (.not (.var 11)) (.bool true) (.cmp .eql (.len (.var 6)) (.int .i64 12)))
     (.ret [(.val (.slice none 0 0)), (.bool false), (.val (.agg #[]))])
     (.evs [.app (.var 7) 3 (.cells [(.var 8), (.fat (.var 9) (.var 12)), (.var 10)])]
      (.next 0 [(.ar .add .i64 (.var 5) (.int .i64 1)), (.var 13), (.var 14)])))))
    (.ret [(.var 6), (.bool true), (.var 7)]))))))
def Ss_readBench : List Spec := [SP_Split, SP_readPiece]
def SP_readBench : Spec := SP_ib
set_option maxHeartbeats 1000000 in
theorem sat_readBench (P : Program) (ins : List Value) (K : List Value → Prop) (_ : TypedL [.str] ins) (h : SP_readBench ins K) : sat P Ss_readBench tr_readBench ins [] K := by
  obtain ⟨s, rfl, hl, hK⟩ := h
  have hno : benchW s = none → K [.slice none 0 0, .bool false, .agg #[]] := by
    intro hn
    rw [hn] at hK
    exact hK
  refine evs_step (app_empty (by omega) fun a1 cap1 => evs_nil ?_)
  refine ⟨fun hc => ?_, fun hc => ?_⟩
  · have hc : Value.bool ((strV (bv s)).toList == (strV (bv [])).toList) = .bool true := hc
    rw [seq_bv] at hc
    have hs := bt_of hc
    subst hs
    exact hK a1 0 cap1 [] rfl (fun p hp => by cases hp) rfl
  · have hc : Value.bool ((strV (bv s)).toList == (strV (bv [])).toList) = .bool false := hc
    rw [seq_bv] at hc
    have hs := bf_of hc
    clear hc
    refine evs_step (call_step rfl ⟨s, 32, rfl, hl, fun a2 len2 cap2 hl2 => evs_nil ?_⟩)
    subst hl2
    have hcc := cut_count 32 s
    refine ⟨fun vs => ∃ (i : Nat) (a : Option Addr) (cap : Nat) (l : List PV), vs = [.int .i64 i, .slice a i cap, rowB l] ∧ i ≤ (cut 32 s).length ∧ i ≤ 12 ∧ pcsW ((cut 32 s).take i) = some (l.map Prod.fst) ∧ (∀ p ∈ l, SlOk p), fun vs => (cut 32 s).length - (toI (vs.getD 0 undef)).toNat, ?_, ?_⟩
    · exact ⟨0, a1, cap1, [], rfl, Nat.zero_le _, Nat.zero_le _, rfl, fun p hp => by cases hp⟩
    · rintro vs hty ⟨i, a, cap, l, rfl, hi, h12, hps, hok⟩
      have hnl : l.length = i := by
        have := (pcsW_length hps).1
        simp at this; omega
      refine ⟨fun hc => ?_, fun hc => ?_⟩
      · have hlt : i < (cut 32 s).length := by
          have hc : Value.bool (decide ((i : Int) < ((cut 32 s).length : Int))) = .bool true := hc
          have := bt_of hc; omega
        have hx := List.getElem?_eq_getElem hlt
        have hw : IntKind.i64.wrap ((i : Int) + 1) = ((i + 1 : Nat) : Int) := by rw [wrap_in (by omega)]; omega
        have htk : (cut 32 s).take (i + 1) = (cut 32 s).take i ++ [(cut 32 s)[i]] := by rw [List.take_add_one, hx]; rfl
        have hwl := cut_len 32 s _ (List.getElem_mem hlt)
        have hsn := pcsW_snoc (w := (cut 32 s)[i]) (ws := (cut 32 s).take i)
        rw [hps] at hsn
        refine evs_step (need_step (all_cons (inb_true (c := rowS (cut 32 s)) (i := i) (n := 1) (by simp [rowS_cells]; omega)) all_nil) (evs_nil ?_))
        refine evs_step (call_step rfl ?_)
        refine ⟨(cut 32 s)[i], ?_, by omega, ?_⟩
        · show [(rowS (cut 32 s)).cells.getD (((i : Int)).toNat * 1 + 0) undef] = _
          rw [Int.toNat_natCast, rowS_get hx]
        cases hv : pieceW num (cut 32 s)[i] with
        | none =>
          intro k x t c
          refine evs_nil (ite_t rfl ?_)
          refine hno ?_
          have : pcsW (cut 32 s) = none := pcsW_none hv (List.getElem_mem hlt)
          unfold benchW
          rw [if_neg hs, this]
        | some p =>
          obtain ⟨k, ns⟩ := p
          rw [hv] at hsn
          have hsn : pcsW ((cut 32 s).take i ++ [(cut 32 s)[i]]) = some (l.map Prod.fst ++ [⟨k, ns, (cut 32 s)[i]⟩]) := hsn
          intro a3 len3 cap3 hl3
          subst hl3
          refine evs_nil ?_
          by_cases hfull : i = 12
          · refine ite_t ?_ (hno ?_)
            · show (if toB (Value.bool (!true)) = true then Value.bool true else Value.bool ((i : Int) == 12)) = _
              rw [hfull]; rfl
            · unfold benchW
              rw [if_neg hs]
              cases hq : pcsW (cut 32 s) with
              | none => rfl
              | some q =>
                have := (pcsW_length hq).1
                dsimp only
                rw [if_neg (by omega)]
          · refine ite_f ?_ ?_
            · show (if toB (Value.bool (!true)) = true then Value.bool true else Value.bool ((i : Int) == 12)) = _
              rw [if_neg (by simp)]
              congr 1
              rw [beq_eq_false_iff_ne]
              omega
            refine evs_step (app_step (xs := l.flatMap cB) (ys := cB (⟨k, ns, (cut 32 s)[i]⟩, .slice a3 ns.length cap3)) rfl rfl (by rw [flat_length (n := 3) (fun _ => rfl)]; simp [cB]; omega) fun a4 len4 cap4 _ hl4 => evs_nil ?_)
            have hl4 : len4 = i + 1 := by rw [flat_length (n := 3) (fun _ => rfl)] at hl4; simp [cB] at hl4; omega
            subst hl4
            refine ⟨⟨i + 1, a4, cap4, l ++ [(⟨k, ns, (cut 32 s)[i]⟩, .slice a3 ns.length cap3)], ?_, hlt, by omega, by rw [htk, hsn]; simp, fun p hp => ?_⟩, ?_⟩
            · rw [← rowB_snoc]
              show [Value.int .i64 (IntKind.i64.wrap ((i : Int) + 1)), .slice a4 (i + 1) cap4, Value.agg (l.flatMap cB ++ cB (⟨k, ns, (cut 32 s)[i]⟩, .slice a3 ns.length cap3)).toArray] = _
              rw [hw]
            · rcases List.mem_append.1 hp with hp | hp
              · exact hok p hp
              · rw [List.mem_singleton.1 hp]
                exact ⟨a3, cap3, rfl⟩
            · show (cut 32 s).length - (IntKind.i64.wrap ((i : Int) + 1)).toNat < (cut 32 s).length - ((i : Int)).toNat
              rw [hw, Int.toNat_natCast, Int.toNat_natCast]
              omega
      · have hge : i = (cut 32 s).length := by
          have hc : Value.bool (decide ((i : Int) < ((cut 32 s).length : Int))) = .bool false := hc
          have := bf_of hc; omega
        rw [hge, List.take_length] at hps
        unfold benchW at hK
        rw [if_neg hs, hps] at hK
        dsimp only at hK
        rw [List.length_map, hnl, if_pos h12] at hK
        exact hK a i cap l rfl hok (by simp [hnl])
def tr_opposite : Tr :=
  (.ret [(.ar .sub .i64 (.int .i64 0) (.var 0)), (.ar .sub .i64 (.int .i64 0) (.var 1)), (.var 2)])
def Fs_opposite : List Fun1 := []
def F_opposite : Fun1 := ofTree Fs_opposite tr_opposite
def tr_iMatRotator : Tr :=
  (.evs [.call 0 [(.var 0), (.var 1)] none 7]
  (.ite (.not (.var 8))
  (.ret [(.int .i64 0), (.int .i64 0), (.int .i64 0), (.int .i64 0), (.int .i64 0), (.int .i64 0), (.int .i64 0), (.int .i64 0), (.int .i64 0), (.int .i64 0), (.int .i64 0), (.int .i64 0), (.bool false)])
  (.evs [.call 1 [(.var 5), (.var 6), (.var 7)] none 3]
   (.ret [(.var 2), (.var 3), (.var 4), (.var 9), (.var 10), (.var 11), (.var 5), (.var 6), (.var 7), (.var 2), (.var 3), (.var 4), (.bool true)]))))
def Fs_iMatRotator : List Fun1 := [G_direction, F_opposite]
def F_iMatRotator : Fun1 := ofTree Fs_iMatRotator tr_iMatRotator
def G_iMatRotator : Fun1 := ⟨fun _ => True, fun ins => rotW (i0 ins 0) (i0 ins 1)⟩
theorem as_iMatRotator (ins : List Value) (ht : TypedL [.int .i64, .int .i64] ins) (_ : G_iMatRotator.pre ins) : F_iMatRotator.pre ins ∧ F_iMatRotator.out ins = G_iMatRotator.out ins := by
  obtain ⟨p, q, rfl, wp, wq⟩ := ints2 ht
  obtain ⟨w1, w2⟩ := dirS_wrap p q
  rw [Int.zero_sub] at w1 w2
  simp only [F_iMatRotator, G_iMatRotator, tr_iMatRotator, Fs_iMatRotator, G_direction, F_opposite, tr_opposite, Fs_opposite, dirV, fr3, arI, ofTree, okT, okE, evalT, evalE, evsIn, ev, callF, preF, hasF, needs, i0, b0, toI_int, toB_bool, List.getD_cons_zero, List.getD_cons_succ, List.cons_append, List.nil_append, List.replicate, if_true, if_false, Bool.false_eq_true, and_true, true_and, implies_true, forall_const, false_implies, cmpI, Bool.not_true, Bool.not_false, Bool.true_and, Bool.false_and, Bool.and_true, Bool.and_false, reduceIte, List.append_nil, reduceCtorEq]
  cases h : dirOk p q
  · simp [h, rotW, rotH, ivs]
  · simp [h, rotW, rotH, ivs, w1, w2]
def tr_iMatAdjoint : Tr :=
  (.evs [.call 0 [(.var 0), (.var 1), (.var 2), (.bool false)] none 4,
    .call 0 [(.var 6), (.var 7), (.var 8), (.var 15)] none 4,
    .call 0 [(.var 3), (.var 4), (.var 5), (.var 19)] none 4,
    .call 0 [(.var 9), (.var 10), (.var 11), (.var 23)] none 4,
    .call 1 [(.var 12), (.var 13), (.var 14), (.var 16), (.var 17), (.var 18), (.var 20), (.var 21), (.var 22), (.var 24), (.var 25), (.var 26), (.var 27)] none 14]
  (.ret [(.var 28), (.var 29), (.var 30), (.var 31), (.var 32), (.var 33), (.var 34), (.var 35), (.var 36), (.var 37), (.var 38), (.var 39), (.var 40)]))
def Fs_iMatAdjoint : List Fun1 := [G_mirror, G_gotMat]
def F_iMatAdjoint : Fun1 := ofTree Fs_iMatAdjoint tr_iMatAdjoint
def G_iMatAdjoint : Fun1 := ⟨fun _ => True, adjW⟩
theorem adj_iI (g : Nat → Int) : F_iMatAdjoint.out (ivs g 0 12) = gotV ((((!(mirQ (q3 (ivs g 0 12) 0)).isSome || !(mirQ (q3 (ivs g 0 12) 6)).isSome) || !(mirQ (q3 (ivs g 0 12) 3)).isSome) || !(mirQ (q3 (ivs g 0 12) 9)).isSome)) (fr3 (mirQ (q3 (ivs g 0 12) 0)) ++ (fr3 (mirQ (q3 (ivs g 0 12) 6)) ++ (fr3 (mirQ (q3 (ivs g 0 12) 3)) ++ fr3 (mirQ (q3 (ivs g 0 12) 9))))) 0 12 ++ [.bool (!(((!(mirQ (q3 (ivs g 0 12) 0)).isSome || !(mirQ (q3 (ivs g 0 12) 6)).isSome) || !(mirQ (q3 (ivs g 0 12) 3)).isSome) || !(mirQ (q3 (ivs g 0 12) 9)).isSome))] := by
  kernel_rfl
theorem as_iMatAdjoint (ins : List Value) (ht : TypedL (intTs 12 ++ []) ins) (_ : G_iMatAdjoint.pre ins) : F_iMatAdjoint.pre ins ∧ F_iMatAdjoint.out ins = G_iMatAdjoint.out ins := by
  obtain ⟨g, r, rfl, h1, _⟩ := ints_lit 12 0 ht
  obtain rfl := ints0 h1
  rw [List.append_nil]
  exact ⟨okT_free (by intro F hF ins; simp only [Fs_iMatAdjoint, List.mem_cons, List.not_mem_nil, or_false] at hF; rcases hF with rfl | rfl <;> trivial) _ _ (by kernel_rfl), (adj_iI g).trans (adj_one _ _ _ _)⟩
def tr_iMatPlate : Tr :=
  (.evs [.call 0 [(.var 0), (.var 1)] none 13]
  (.evs [.call 1 [(.var 2), (.int .i64 0), (.int .i64 3)] (some (.not (.not (.var 15)))) 1]
  (.ite (.ite (.not (.var 15)) (.bool true) (.not (.var 16)))
  (.ret [(.int .i64 0), (.int .i64 0), (.int .i64 0), (.int .i64 0), (.int .i64 0), (.int .i64 0), (.int .i64 0), (.int .i64 0), (.int .i64 0), (.int .i64 0), (.int .i64 0), (.int .i64 0), (.bool false)])
  (.evs [.need [(.cmp .leq (.int .i64 0) (.var 2)), (.cmp .lss (.var 2) (.int .i64 4))],
     .need [(.cmp .leq (.int .i64 0) (.var 2)), (.cmp .lss (.var 2) (.int .i64 4))],
     .call 2 [(.var 3), (.var 4), (.var 5), (.var 6), (.var 7), (.var 8), (.var 9), (.var 10), (.var 11), (.var 12), (.var 13), (.var 14), (.int .i64 1), (.int .i64 0), (.int .i64 1), (.int .i64 0), (.int .i64 0), (.int .i64 1), (.int .i64 0), (.int .i64 0), (.int .i64 1), (.ite (.cmp .eql (.var 2) (.int .i64 0)) (.int .i64 1) (.ite (.cmp .eql (.var 2) (.int .i64 1)) (.int .i64 0) (.ite (.cmp .eql (.var 2) (.int .i64 2)) (.int .i64 (-1)) (.int .i64 0)))), (.ite (.cmp .eql (.var 2) (.int .i64 0)) (.int .i64 0) (.ite (.cmp .eql (.var 2) (.int .i64 1)) (.int .i64 1) (.ite (.cmp .eql (.var 2) (.int .i64 2)) (.int .i64 0) (.int .i64 (-1))))), (.ite (.cmp .eql (.var 2) (.int .i64 0)) (.int .i64 1) (.ite (.cmp .eql (.var 2) (.int .i64 1)) (.int .i64 1) (.ite (.cmp .eql (.var 2) (.int .i64 2)) (.int .i64 1) (.int .i64 1))))] none 13]
   (.evs [.call 3 [(.var 3), (.var 4), (.var 5), (.var 6), (.var 7), (.var 8), (.var 9), (.var 10), (.var 11), (.var 12), (.var 13), (.var 14)] none 13]
   (.evs [.call 2 [(.var 17), (.var 18), (.var 19), (.var 20), (.var 21), (.var 22), (.var 23), (.var 24), (.var 25), (.var 26), (.var 27), (.var 28), (.var 30), (.var 31), (.var 32), (.var 33), (.var 34), (.var 35), (.var 36), (.var 37), (.var 38), (.var 39), (.var 40), (.var 41)] none 13]
   (.ite (.ite (.not (.var 29)) (.bool true) (.not (.var 55)))
   (.ret [(.int .i64 0), (.int .i64 0), (.int .i64 0), (.int .i64 0), (.int .i64 0), (.int .i64 0), (.int .i64 0), (.int .i64 0), (.int .i64 0), (.int .i64 0), (.int .i64 0), (.int .i64 0), (.bool false)])
   (.ret [(.var 43), (.var 44), (.var 45), (.var 46), (.var 47), (.var 48), (.var 49), (.var 50), (.var 51), (.var 52), (.var 53), (.var 54), (.bool true)]))))))))
def Fs_iMatPlate : List Fun1 := [G_iMatRotator, G_within, G_iMatTimes, G_iMatAdjoint]
def SP_iMatPlate : Spec := fun ins K => ∃ p q k, ins = [.int .i64 p, .int .i64 q, .int .i64 k] ∧ K (plateV p q k)
set_option maxHeartbeats 2000000 in
theorem sat_iMatPlate (P : Program) (ins : List Value) (K : List Value → Prop) (_ : TypedL [.int .i64, .int .i64, .int .i64] ins) (h : SP_iMatPlate ins K) : sat P (specsOf Fs_iMatPlate) tr_iMatPlate ins [] K := by
  obtain ⟨p, q, k, rfl, hK⟩ := h
  unfold plateV at hK
  refine evs_step (call_step rfl ⟨trivial, evs_nil ?_⟩)
  show sat P _ _ ([.int .i64 p, .int .i64 q, .int .i64 k] ++ (ivs (rotH p q) 0 12 ++ [.bool (dirOk p q)])) [] K
  generalize rotH p q = g at *
  cases hd : dirOk p q with
  | false =>
    rw [hd] at hK
    exact evs_step (callg_step rfl (fun h => by cases h) (fun _ => evs_nil (ite_t rfl hK)))
  | true =>
    refine evs_step (callg_step rfl (fun _ => ⟨trivial, evs_nil ?_⟩) (fun h => by cases h))
    show sat P _ _ ([.int .i64 p, .int .i64 q, .int .i64 k] ++ (ivs g 0 12 ++ [.bool true]) ++ [.bool (inRg k 0 3)]) [] K
    rw [hd, Bool.true_and] at hK
    cases hk : inRg k 0 3 with
    | false =>
      rw [hk] at hK
      exact ite_t rfl hK
    | true =>
      rw [hk, Bool.true_and] at hK
      have hk2 : 0 ≤ k ∧ k ≤ 3 := by simpa [inRg] using hk
      have n1 : Value.bool (decide ((0 : Int) ≤ k)) = .bool true := bt hk2.1
      have n2 : Value.bool (decide (k < (4 : Int))) = .bool true := bt (by omega)
      refine ite_f rfl (evs_step (need_step (all_cons n1 (all_cons n2 all_nil)) (need_step (all_cons n1 (all_cons n2 all_nil)) (call_step rfl ⟨trivial, evs_nil ?_⟩))))
      refine evs_step (call_step rfl ⟨trivial, evs_nil ?_⟩)
      refine evs_step (call_step rfl ⟨trivial, evs_nil ?_⟩)
      refine ⟨fun h => ?_, fun h => ?_⟩
      · have h' : (if toB (.bool (!(b0 (plA g k) 12))) = true then Value.bool true else .bool (!(b0 (plM g k) 12))) = .bool true := Eq.trans (by kernel_rfl) h
        have hf : (b0 (plA g k) 12 && b0 (plM g k) 12) = false := by
          generalize b0 (plA g k) 12 = x at h'
          generalize b0 (plM g k) 12 = y at h'
          cases x <;> cases y <;> first | rfl | cases h'
        rw [hf] at hK
        exact hK
      · have h' : (if toB (.bool (!(b0 (plA g k) 12))) = true then Value.bool true else .bool (!(b0 (plM g k) 12))) = .bool false := Eq.trans (by kernel_rfl) h
        have hf : (b0 (plA g k) 12 && b0 (plM g k) 12) = true := by
          generalize b0 (plA g k) 12 = x at h'
          generalize b0 (plM g k) 12 = y at h'
          cases x <;> cases y <;> first | rfl | cases h'
        rw [hf] at hK
        have hK : K ((plM g k).take 12 ++ [.bool true]) := hK
        refine Eq.mp (congrArg K ?_) hK
        kernel_rfl
def tr_iMatFilter : Tr :=
  (.evs [.call 0 [(.var 0), (.var 1)] none 7]
  (.evs [.call 1 [(.var 8), (.bool false)] none 1]
  (.evs [.call 2 [(.var 2), (.var 3), (.var 4), (.var 2), (.var 3), (.var 4), (.var 9)] none 4,
    .call 2 [(.var 2), (.var 3), (.var 4), (.var 5), (.var 6), (.var 7), (.var 13)] none 4,
    .call 2 [(.var 2), (.var 3), (.var 4), (.var 5), (.var 6), (.var 7), (.var 17)] none 4,
    .call 2 [(.var 5), (.var 6), (.var 7), (.var 5), (.var 6), (.var 7), (.var 21)] none 4,
    .call 3 [(.var 10), (.var 11), (.var 12), (.var 14), (.var 15), (.var 16), (.var 18), (.var 19), (.var 20), (.var 22), (.var 23), (.var 24), (.var 25)] none 14]
  (.ret [(.var 26), (.var 27), (.var 28), (.var 29), (.var 30), (.var 31), (.var 32), (.var 33), (.var 34), (.var 35), (.var 36), (.var 37), (.var 38)]))))
def Fs_iMatFilter : List Fun1 := [G_direction, G_need, G_times, G_gotMat]
def F_iMatFilter : Fun1 := ofTree Fs_iMatFilter tr_iMatFilter
def G_iMatFilter : Fun1 := ⟨fun _ => True, fun ins => filtW (i0 ins 0) (i0 ins 1)⟩
theorem filt_iI (p q : Int) : F_iMatFilter.out [.int .i64 p, .int .i64 q] = filtI (dirOk p q) (timesQ ((dirC p q).getD zq) ((dirC p q).getD zq)) (timesQ ((dirC p q).getD zq) ((dirS p q).getD zq)) (timesQ ((dirS p q).getD zq) ((dirS p q).getD zq)) := by kernel_rfl
theorem as_iMatFilter (ins : List Value) (ht : TypedL [.int .i64, .int .i64] ins) (_ : G_iMatFilter.pre ins) : F_iMatFilter.pre ins ∧ F_iMatFilter.out ins = G_iMatFilter.out ins := by
  obtain ⟨p, q, rfl, wp, wq⟩ := ints2 ht
  exact ⟨okT_free (by intro F hF ins; simp only [Fs_iMatFilter, List.mem_cons, List.not_mem_nil, or_false] at hF; rcases hF with rfl | rfl | rfl | rfl <;> trivial) _ _ (by kernel_rfl), (filt_iI p q).trans (filt_one _ _ _ _)⟩
def tr_share : Tr :=
  (.evs [.need [(.inb (.var 3) (.int .i64 0) 1), (.inb (.var 3) (.int .i64 1) 1)],
    .need [(.inb (.var 3) (.int .i64 0) 1), (.inb (.var 3) (.int .i64 1) 1)],
    .call 0 [(.sel (.var 3) (.int .i64 0) 1 0), (.int .i64 0), (.sel (.var 3) (.int .i64 1) 1 0)] none 4]
  (.ret [(.var 4), (.var 5), (.var 6)]))
def Fs_share : List Fun1 := [G_lowest]
theorem len_if {l : List UInt8} {b : Bool} (h : Value.bool (decide (lenV (bv l) > 1048576)) = .bool b) : b = decide (l.length > 1048576) := by
  rw [len_bv] at h
  rw [← Value.bool.inj h]
  by_cases e : l.length > 1048576
  · rw [decide_eq_true e, decide_eq_true (by omega)]
  · rw [decide_eq_false e, decide_eq_false (by omega)]
theorem str_one {ins : List Value} (ht : TypedL [.str] ins) : ∃ l, ins = [bv l] := by
  obtain ⟨v, r, rfl, hv, hr⟩ := TypedL_cons ht
  obtain rfl := TypedL_nil hr
  obtain ⟨l, rfl, _⟩ := str_of hv
  exact ⟨l, rfl⟩
def shareQ (ns : List Int) : Option Q := lowI (ns.getD 0 0) 0 (ns.getD 1 0)
def noMat : List Value := zeros 12 ++ [.bool false]
def scalW (a : Option Q) : List Value := fr3 a ++ ([.int .i64 0, .int .i64 0, .int .i64 1, .int .i64 0, .int .i64 0, .int .i64 1] ++ (fr3 a ++ [.bool true]))
def pieceM (k : UInt8) (ns : List Int) : List Value :=
  if k = 114 then rotW (ns.getD 0 0) (ns.getD 1 0) else if k = 119 then plateV (ns.getD 0 0) (ns.getD 1 0) (ns.getD 2 0)
  else if k = 102 then filtW (ns.getD 0 0) (ns.getD 1 0) else if k = 97 then scalW (shareQ ns) else noMat
theorem ok_two {k : UInt8} {ns : List Int} (hk : k = 114 ∨ k = 102 ∨ k = 97 ∨ k = 100) (h : okPiece k ns = true) : ∃ p q, ns = [p, q] := by
  by_cases h2 : ns.length = 2
  · exact two_list h2
  · rw [ok_len2 hk h2] at h; cases h
theorem ok_three {ns : List Int} (h : okPiece 119 ns = true) : ∃ p q r, ns = [p, q, r] := by
  by_cases h2 : ns.length = 3
  · exact three_list h2
  · rw [ok_len3 h2] at h; cases h
def partOk (n d : Int) : Prop := 0 ≤ n ∧ n ≤ d ∧ 1 ≤ d ∧ d ≤ 100
theorem ok_part {k : UInt8} {n d : Int} (hk : k = 97 ∨ k = 100) (h : okPiece k [n, d] = true) : partOk n d := by
  have h : (inRg d 1 100 && inRg n 0 d) = true := by
    rcases hk with rfl | rfl <;> exact h
  simp only [inRg, Bool.and_eq_true, decide_eq_true_eq] at h
  unfold partOk
  omega
def SP_part : Spec := fun ins K => ∃ k x t n d, ins = [k, x, t, rowI [n, d]] ∧ partOk n d ∧ K (fr3 (shareQ [n, d]))
def SP_partS : Spec := fun ins K => ∃ k x n d, ins = [k, x, rowI [n, d]] ∧ partOk n d ∧ K (fr3 (shareQ [n, d]))
def SP_pm : Spec := fun ins K => ∃ k x t ns, ins = [u8 k, x, t, rowI ns] ∧ okPiece k ns = true ∧ K (pieceM k ns)
def SP_pmS : Spec := fun ins K => ∃ k x ns, ins = [u8 k, x, rowI ns] ∧ okPiece k ns = true ∧ K (pieceM k ns)
theorem inb_two {p q : Int} : ∀ i : Nat, i < 2 → Value.bool (decide (0 ≤ (i : Int) ∧ ((i : Int).toNat + 1) * 1 ≤ (rowI [p, q]).cells.size)) = .bool true := fun i hi => inb_true (c := rowI [p, q]) (i := i) (n := 1) (by rw [rowI_size]; simp only [List.length_cons, List.length_nil]; omega)
theorem inb_three {p q r : Int} : ∀ i : Nat, i < 3 → Value.bool (decide (0 ≤ (i : Int) ∧ ((i : Int).toNat + 1) * 1 ≤ (rowI [p, q, r]).cells.size)) = .bool true := fun i hi => inb_true (c := rowI [p, q, r]) (i := i) (n := 1) (by rw [rowI_size]; simp only [List.length_cons, List.length_nil]; omega)
theorem all2 {p q : Int} {env : List Value} {x y : Ex} (h0 : ev env x = Value.bool (decide (0 ≤ ((0 : Nat) : Int) ∧ (((0 : Nat) : Int).toNat + 1) * 1 ≤ (rowI [p, q]).cells.size))) (h1 : ev env y = Value.bool (decide (0 ≤ ((1 : Nat) : Int) ∧ (((1 : Nat) : Int).toNat + 1) * 1 ≤ (rowI [p, q]).cells.size))) : AllTrue env [x, y] :=
  all_cons (h0.trans (inb_two 0 (by omega))) (all_cons (h1.trans (inb_two 1 (by omega))) all_nil)
theorem all3 {p q r : Int} {env : List Value} {x y z : Ex} (h0 : ev env x = Value.bool (decide (0 ≤ ((0 : Nat) : Int) ∧ (((0 : Nat) : Int).toNat + 1) * 1 ≤ (rowI [p, q, r]).cells.size))) (h1 : ev env y = Value.bool (decide (0 ≤ ((1 : Nat) : Int) ∧ (((1 : Nat) : Int).toNat + 1) * 1 ≤ (rowI [p, q, r]).cells.size))) (h2 : ev env z = Value.bool (decide (0 ≤ ((2 : Nat) : Int) ∧ (((2 : Nat) : Int).toNat + 1) * 1 ≤ (rowI [p, q, r]).cells.size))) : AllTrue env [x, y, z] :=
  all_cons (h0.trans (inb_three 0 (by omega))) (all_cons (h1.trans (inb_three 1 (by omega))) (all_cons (h2.trans (inb_three 2 (by omega))) all_nil))
def SP_share : Spec := SP_part
theorem sat_share (P : Program) (ins : List Value) (K : List Value → Prop) (_ : TypedL [.int .u8, .sl, .str, .row .i64 1] ins) (h : SP_share ins K) : sat P (specsOf Fs_share) tr_share ins [] K := by
  obtain ⟨k, x, t, n, d, rfl, ho, hK⟩ := h
  unfold partOk at ho
  refine evs_step (need_step (all2 (p := n) (q := d) rfl rfl) (need_step (all2 (p := n) (q := d) rfl rfl) (call_step rfl ⟨?_, evs_nil hK⟩)))
  show lowOk n 0 d
  unfold lowOk
  omega
def tr_mat : Tr :=
  (.ite (.cmp .eql (.var 0) (.int .u8 114))
  (.evs [.need [(.inb (.var 3) (.int .i64 0) 1), (.inb (.var 3) (.int .i64 1) 1)],
     .need [(.inb (.var 3) (.int .i64 0) 1), (.inb (.var 3) (.int .i64 1) 1)],
     .call 0 [(.sel (.var 3) (.int .i64 0) 1 0), (.sel (.var 3) (.int .i64 1) 1 0)] none 13]
   (.ret [(.var 4), (.var 5), (.var 6), (.var 7), (.var 8), (.var 9), (.var 10), (.var 11), (.var 12), (.var 13), (.var 14), (.var 15), (.var 16)]))
  (.ite (.cmp .eql (.var 0) (.int .u8 119))
   (.evs [.need [(.inb (.var 3) (.int .i64 0) 1), (.inb (.var 3) (.int .i64 1) 1), (.inb (.var 3) (.int .i64 2) 1)],
      .need [(.inb (.var 3) (.int .i64 0) 1), (.inb (.var 3) (.int .i64 1) 1), (.inb (.var 3) (.int .i64 2) 1)],
      .call 1 [(.sel (.var 3) (.int .i64 0) 1 0), (.sel (.var 3) (.int .i64 1) 1 0), (.sel (.var 3) (.int .i64 2) 1 0)] none 13]
    (.ret [(.var 4), (.var 5), (.var 6), (.var 7), (.var 8), (.var 9), (.var 10), (.var 11), (.var 12), (.var 13), (.var 14), (.var 15), (.var 16)]))
   (.ite (.cmp .eql (.var 0) (.int .u8 102))
    (.evs [.need [(.inb (.var 3) (.int .i64 0) 1), (.inb (.var 3) (.int .i64 1) 1)],
       .need [(.inb (.var 3) (.int .i64 0) 1), (.inb (.var 3) (.int .i64 1) 1)],
       .call 2 [(.sel (.var 3) (.int .i64 0) 1 0), (.sel (.var 3) (.int .i64 1) 1 0)] none 13]
     (.ret [(.var 4), (.var 5), (.var 6), (.var 7), (.var 8), (.var 9), (.var 10), (.var 11), (.var 12), (.var 13), (.var 14), (.var 15), (.var 16)]))
    (.ite (.cmp .eql (.var 0) (.int .u8 97))
     (.evs [.call 3 [(.var 0), (.var 1), (.var 2), (.var 3)] none 3,
        .call 3 [(.var 0), (.var 1), (.var 2), (.var 3)] none 3]
      (.ret [(.var 4), (.var 5), (.var 6), (.int .i64 0), (.int .i64 0), (.int .i64 1), (.int .i64 0), (.int .i64 0), (.int .i64 1), (.var 7), (.var 8), (.var 9), (.bool true)]))
     (.ret [(.int .i64 0), (.int .i64 0), (.int .i64 0), (.int .i64 0), (.int .i64 0), (.int .i64 0), (.int .i64 0), (.int .i64 0), (.int .i64 0), (.int .i64 0), (.int .i64 0), (.int .i64 0), (.bool false)])))))
def Ss_mat : List Spec := [G_iMatRotator.spec, SP_iMatPlate, G_iMatFilter.spec, SP_share]
def SP_mat : Spec := SP_pm
set_option maxHeartbeats 2000000 in
theorem sat_mat (P : Program) (ins : List Value) (K : List Value → Prop) (_ : TypedL [.int .u8, .sl, .str, .row .i64 1] ins) (h : SP_mat ins K) : sat P Ss_mat tr_mat ins [] K := by
  obtain ⟨k, x, t, ns, rfl, ho, hK⟩ := h
  rcases k_cases k with rfl | rfl | rfl | rfl | rfl | ⟨h1, h2, h3, h4, h5⟩
  · obtain ⟨p, q, rfl⟩ := ok_two (.inl rfl) ho
    refine ite_t rfl (evs_step (need_step (all2 (p := p) (q := q) rfl rfl) (need_step (all2 (p := p) (q := q) rfl rfl) (call_step rfl ⟨trivial, evs_nil ?_⟩))))
    have hK : K (rotW p q) := hK
    refine Eq.mp (congrArg K ?_) hK
    kernel_rfl
  · obtain ⟨p, q, rfl⟩ := ok_two (.inr (.inl rfl)) ho
    refine ite_f rfl (ite_f rfl (ite_t rfl (evs_step (need_step (all2 (p := p) (q := q) rfl rfl) (need_step (all2 (p := p) (q := q) rfl rfl) (call_step rfl ⟨trivial, evs_nil ?_⟩))))))
    have hK : K (filtW p q) := hK
    refine Eq.mp (congrArg K ?_) hK
    kernel_rfl
  · obtain ⟨p, q, r, rfl⟩ := ok_three ho
    refine ite_f rfl (ite_t rfl (evs_step (need_step (all3 (p := p) (q := q) (r := r) rfl rfl rfl) (need_step (all3 (p := p) (q := q) (r := r) rfl rfl rfl) (call_step rfl ⟨p, q, r, rfl, evs_nil ?_⟩)))))
    have hK : K (plateV p q r) := hK
    obtain ⟨g, b, e⟩ : ∃ (g : Nat → Int) (b : Bool), plateV p q r = ivs g 0 12 ++ [.bool b] := plate_lit p q r
    rw [e] at hK ⊢
    exact hK
  · obtain ⟨p, q, rfl⟩ := ok_two (.inr (.inr (.inl rfl))) ho
    have hp := ok_part (.inl rfl) ho
    refine ite_f rfl (ite_f rfl (ite_f rfl (ite_t rfl (evs_step (call_step rfl ⟨_, _, _, p, q, rfl, hp, call_step rfl ⟨_, _, _, p, q, rfl, hp, evs_nil ?_⟩⟩)))))
    exact hK
  · refine ite_f rfl (ite_f rfl (ite_f rfl (ite_f rfl ?_)))
    exact hK
  · rw [ok_other h1 h2 h3 h4 h5] at ho; cases ho
def tr_l7Part : Tr :=
  (.evs [.need [(.inb (.var 2) (.int .i64 0) 1), (.inb (.var 2) (.int .i64 1) 1)],
    .need [(.inb (.var 2) (.int .i64 0) 1), (.inb (.var 2) (.int .i64 1) 1)],
    .call 0 [(.sel (.var 2) (.int .i64 0) 1 0), (.int .i64 0), (.sel (.var 2) (.int .i64 1) 1 0)] none 4]
  (.ret [(.var 3), (.var 4), (.var 5)]))
def Fs_l7Part : List Fun1 := [G_sFracMake]
def SP_l7Part : Spec := SP_partS
theorem sat_l7Part (P : Program) (ins : List Value) (K : List Value → Prop) (_ : TypedL [.int .u8, .sl, .row .i64 1] ins) (h : SP_l7Part ins K) : sat P (specsOf Fs_l7Part) tr_l7Part ins [] K := by
  obtain ⟨k, x, n, d, rfl, ho, hK⟩ := h
  unfold partOk at ho
  refine evs_step (need_step (all2 (p := n) (q := d) rfl rfl) (need_step (all2 (p := n) (q := d) rfl rfl) (call_step rfl ⟨trivial, evs_nil ?_⟩)))
  have e : makeI n 0 d = lowI n 0 d := make_small (x := 100) (by omega) (by omega) (by omega) (by omega)
  show K (fr3 (makeI n 0 d))
  rw [e]
  exact hK
def tr_l7Mat : Tr :=
  (.ite (.cmp .eql (.var 0) (.int .u8 114))
  (.evs [.need [(.inb (.var 2) (.int .i64 0) 1), (.inb (.var 2) (.int .i64 1) 1)],
     .need [(.inb (.var 2) (.int .i64 0) 1), (.inb (.var 2) (.int .i64 1) 1)],
     .call 0 [(.sel (.var 2) (.int .i64 0) 1 0), (.sel (.var 2) (.int .i64 1) 1 0)] none 13]
   (.ret [(.var 3), (.var 4), (.var 5), (.var 6), (.var 7), (.var 8), (.var 9), (.var 10), (.var 11), (.var 12), (.var 13), (.var 14), (.var 15)]))
  (.ite (.cmp .eql (.var 0) (.int .u8 119))
   (.evs [.need [(.inb (.var 2) (.int .i64 0) 1), (.inb (.var 2) (.int .i64 1) 1), (.inb (.var 2) (.int .i64 2) 1)],
      .need [(.inb (.var 2) (.int .i64 0) 1), (.inb (.var 2) (.int .i64 1) 1), (.inb (.var 2) (.int .i64 2) 1)],
      .call 1 [(.sel (.var 2) (.int .i64 0) 1 0), (.sel (.var 2) (.int .i64 1) 1 0), (.sel (.var 2) (.int .i64 2) 1 0)] none 13]
    (.ret [(.var 3), (.var 4), (.var 5), (.var 6), (.var 7), (.var 8), (.var 9), (.var 10), (.var 11), (.var 12), (.var 13), (.var 14), (.var 15)]))
   (.ite (.cmp .eql (.var 0) (.int .u8 102))
    (.evs [.need [(.inb (.var 2) (.int .i64 0) 1), (.inb (.var 2) (.int .i64 1) 1)],
       .need [(.inb (.var 2) (.int .i64 0) 1), (.inb (.var 2) (.int .i64 1) 1)],
       .call 2 [(.sel (.var 2) (.int .i64 0) 1 0), (.sel (.var 2) (.int .i64 1) 1 0)] none 13]
     (.ret [(.var 3), (.var 4), (.var 5), (.var 6), (.var 7), (.var 8), (.var 9), (.var 10), (.var 11), (.var 12), (.var 13), (.var 14), (.var 15)]))
    (.ite (.cmp .eql (.var 0) (.int .u8 97))
     (.evs [.call 3 [(.var 0), (.var 1), (.var 2)] none 3]
      (.evs [.call 4 [(.var 3), (.var 4), (.var 5), (.var 3), (.var 4), (.var 5)] none 12]
      (.ret [(.var 6), (.var 7), (.var 8), (.var 9), (.var 10), (.var 11), (.var 12), (.var 13), (.var 14), (.var 15), (.var 16), (.var 17), (.bool true)])))
     (.ret [(.int .i64 0), (.int .i64 0), (.int .i64 0), (.int .i64 0), (.int .i64 0), (.int .i64 0), (.int .i64 0), (.int .i64 0), (.int .i64 0), (.int .i64 0), (.int .i64 0), (.int .i64 0), (.bool false)])))))
def Ss_l7Mat : List Spec := [G_sMatRotator.spec, SP_sMatPlate, G_sMatFilter.spec, SP_l7Part, F_l5One.spec]
def SP_l7Mat : Spec := SP_pmS
set_option maxHeartbeats 2000000 in
theorem sat_l7Mat (P : Program) (ins : List Value) (K : List Value → Prop) (_ : TypedL [.int .u8, .sl, .row .i64 1] ins) (h : SP_l7Mat ins K) : sat P Ss_l7Mat tr_l7Mat ins [] K := by
  obtain ⟨k, x, ns, rfl, ho, hK⟩ := h
  rcases k_cases k with rfl | rfl | rfl | rfl | rfl | ⟨h1, h2, h3, h4, h5⟩
  · obtain ⟨p, q, rfl⟩ := ok_two (.inl rfl) ho
    refine ite_t rfl (evs_step (need_step (all2 (p := p) (q := q) rfl rfl) (need_step (all2 (p := p) (q := q) rfl rfl) (call_step rfl ⟨trivial, evs_nil ?_⟩))))
    have hK : K (rotW p q) := hK
    refine Eq.mp (congrArg K ?_) hK
    kernel_rfl
  · obtain ⟨p, q, rfl⟩ := ok_two (.inr (.inl rfl)) ho
    refine ite_f rfl (ite_f rfl (ite_t rfl (evs_step (need_step (all2 (p := p) (q := q) rfl rfl) (need_step (all2 (p := p) (q := q) rfl rfl) (call_step rfl ⟨trivial, evs_nil ?_⟩))))))
    have hK : K (filtW p q) := hK
    refine Eq.mp (congrArg K ?_) hK
    kernel_rfl
  · obtain ⟨p, q, r, rfl⟩ := ok_three ho
    refine ite_f rfl (ite_t rfl (evs_step (need_step (all3 (p := p) (q := q) (r := r) rfl rfl rfl) (need_step (all3 (p := p) (q := q) (r := r) rfl rfl rfl) (call_step rfl ⟨p, q, r, rfl, evs_nil ?_⟩)))))
    have hK : K (plateV p q r) := hK
    obtain ⟨g, b, e⟩ : ∃ (g : Nat → Int) (b : Bool), plateV p q r = ivs g 0 12 ++ [.bool b] := plate_lit p q r
    rw [e] at hK ⊢
    exact hK
  · obtain ⟨p, q, rfl⟩ := ok_two (.inr (.inr (.inl rfl))) ho
    have hp := ok_part (.inl rfl) ho
    refine ite_f rfl (ite_f rfl (ite_f rfl (ite_t rfl (evs_step (call_step rfl ⟨_, _, p, q, rfl, hp, evs_nil ?_⟩)))))
    refine evs_step (call_step rfl ⟨trivial, evs_nil ?_⟩)
    exact hK
  · refine ite_f rfl (ite_f rfl (ite_f rfl (ite_f rfl ?_)))
    exact hK
  · rw [ok_other h1 h2 h3 h4 h5] at ho; cases ho
def tr_table : Tr :=
  (.ite (.cmp .eql (.var 0) (.int .u8 100))
  (.evs [.call 1 [(.var 0), (.var 1), (.var 2), (.var 3)] none 3,
     .call 0 [(.var 4), (.var 5), (.var 6)] none 49]
   (.ret [(.var 7), (.var 8), (.var 9), (.var 10), (.var 11), (.var 12), (.var 13), (.var 14), (.var 15), (.var 16), (.var 17), (.var 18), (.var 19), (.var 20), (.var 21), (.var 22), (.var 23), (.var 24), (.var 25), (.var 26), (.var 27), (.var 28), (.var 29), (.var 30), (.var 31), (.var 32), (.var 33), (.var 34), (.var 35), (.var 36), (.var 37), (.var 38), (.var 39), (.var 40), (.var 41), (.var 42), (.var 43), (.var 44), (.var 45), (.var 46), (.var 47), (.var 48), (.var 49), (.var 50), (.var 51), (.var 52), (.var 53), (.var 54), (.var 55)]))
  (.evs [.call 2 [(.var 0), (.var 1), (.var 2), (.var 3)] none 13]
   (.ite (.not (.var 16))
   (.ret [(.int .i64 0), (.int .i64 0), (.int .i64 0), (.int .i64 0), (.int .i64 0), (.int .i64 0), (.int .i64 0), (.int .i64 0), (.int .i64 0), (.int .i64 0), (.int .i64 0), (.int .i64 0), (.int .i64 0), (.int .i64 0), (.int .i64 0), (.int .i64 0), (.int .i64 0), (.int .i64 0), (.int .i64 0), (.int .i64 0), (.int .i64 0), (.int .i64 0), (.int .i64 0), (.int .i64 0), (.int .i64 0), (.int .i64 0), (.int .i64 0), (.int .i64 0), (.int .i64 0), (.int .i64 0), (.int .i64 0), (.int .i64 0), (.int .i64 0), (.int .i64 0), (.int .i64 0), (.int .i64 0), (.int .i64 0), (.int .i64 0), (.int .i64 0), (.int .i64 0), (.int .i64 0), (.int .i64 0), (.int .i64 0), (.int .i64 0), (.int .i64 0), (.int .i64 0), (.int .i64 0), (.int .i64 0), (.bool false)])
   (.evs [.call 3 [(.var 4), (.var 5), (.var 6), (.var 7), (.var 8), (.var 9), (.var 10), (.var 11), (.var 12), (.var 13), (.var 14), (.var 15)] none 49]
    (.ret [(.var 17), (.var 18), (.var 19), (.var 20), (.var 21), (.var 22), (.var 23), (.var 24), (.var 25), (.var 26), (.var 27), (.var 28), (.var 29), (.var 30), (.var 31), (.var 32), (.var 33), (.var 34), (.var 35), (.var 36), (.var 37), (.var 38), (.var 39), (.var 40), (.var 41), (.var 42), (.var 43), (.var 44), (.var 45), (.var 46), (.var 47), (.var 48), (.var 49), (.var 50), (.var 51), (.var 52), (.var 53), (.var 54), (.var 55), (.var 56), (.var 57), (.var 58), (.var 59), (.var 60), (.var 61), (.var 62), (.var 63), (.var 64), (.var 65)])))))
def Ss_table : List Spec := [G_iTableFade.spec, SP_share, SP_mat, G_iTableOf.spec]
theorem pieceM_lit (k : UInt8) (ns : List Int) : ∃ (g : Nat → Int) (b : Bool), pieceM k ns = ivs g 0 12 ++ [.bool b] := by
  unfold pieceM
  split
  · exact ⟨_, _, rfl⟩
  · split
    · exact plate_lit _ _ _
    · split
      · exact ⟨_, _, rfl⟩
      · split
        · refine ⟨fun i => if i = 0 then ((shareQ ns).getD zq).1 else if i = 1 then ((shareQ ns).getD zq).2.1 else if i = 2 then ((shareQ ns).getD zq).2.2 else if i = 5 then 1 else if i = 8 then 1 else if i = 9 then ((shareQ ns).getD zq).1 else if i = 10 then ((shareQ ns).getD zq).2.1 else if i = 11 then ((shareQ ns).getD zq).2.2 else 0, true, rfl⟩
        · exact ⟨fun _ => 0, false, rfl⟩
theorem andV_b (a b : Bool) : andV (.bool a) (.bool b) = .bool (a && b) := by cases a <;> rfl
def tofW (ins : List Value) : List Value := nttW 16 (matQ fun k => q3 ins (3 * k)) (toD fun k => q3 ins (3 * k))
def fadeW (a : Q) : List Value := nttW 16 (realQ a) (fdD a)
def pieceT (k : UInt8) (ns : List Int) : List Value :=
  if k = 100 then fadeW ((shareQ ns).getD zq) else if b0 (pieceM k ns) 12 = true then tofW ((pieceM k ns).take 12) else zeros 48 ++ [.bool false]
theorem pieceT_lit (k : UInt8) (ns : List Int) : ∃ (g : Nat → Int) (b : Bool), pieceT k ns = ivs g 0 48 ++ [.bool b] := by
  unfold pieceT
  split
  · exact ⟨_, _, rfl⟩
  · split
    · exact ⟨_, _, rfl⟩
    · exact ⟨fun _ => 0, false, rfl⟩
def SP_pt : Spec := fun ins K => ∃ k x t ns, ins = [u8 k, x, t, rowI ns] ∧ okPiece k ns = true ∧ K (pieceT k ns)
def SP_ptS : Spec := fun ins K => ∃ k x ns, ins = [u8 k, x, rowI ns] ∧ okPiece k ns = true ∧ K (pieceT k ns)
def SP_table : Spec := SP_pt
set_option maxHeartbeats 2000000 in
theorem sat_table (P : Program) (ins : List Value) (K : List Value → Prop) (_ : TypedL [.int .u8, .sl, .str, .row .i64 1] ins) (h : SP_table ins K) : sat P Ss_table tr_table ins [] K := by
  obtain ⟨k, x, t, ns, rfl, ho, hK⟩ := h
  unfold pieceT at hK
  by_cases hk : k = 100
  · subst hk
    obtain ⟨p, q, rfl⟩ := ok_two (.inr (.inr (.inr rfl))) ho
    have hp := ok_part (.inr rfl) ho
    rw [if_pos rfl] at hK
    refine ite_t rfl (evs_step (call_step rfl ⟨_, _, _, p, q, rfl, hp, call_step rfl ⟨trivial, evs_nil ?_⟩⟩))
    refine Eq.mp (congrArg K ?_) hK
    kernel_rfl
  · rw [if_neg hk] at hK
    refine ite_f (beq_f (m := 100) hk) (evs_step (call_step rfl ⟨k, x, t, ns, rfl, ho, ?_⟩))
    obtain ⟨g, b, e⟩ := pieceM_lit k ns
    rw [e] at hK ⊢
    refine evs_nil ?_
    cases b with
    | false => exact ite_t rfl hK
    | true =>
      refine ite_f rfl (evs_step (call_step rfl ⟨trivial, evs_nil ?_⟩))
      have hK : K (tofW (ivs g 0 12)) := hK
      refine Eq.mp (congrArg K ?_) hK
      kernel_rfl
def tr_l7Table : Tr :=
  (.ite (.cmp .eql (.var 0) (.int .u8 100))
  (.evs [.call 0 [(.var 0), (.var 1), (.var 2)] none 3,
     .call 1 [(.var 3), (.var 4), (.var 5)] none 49]
   (.ret [(.var 6), (.var 7), (.var 8), (.var 9), (.var 10), (.var 11), (.var 12), (.var 13), (.var 14), (.var 15), (.var 16), (.var 17), (.var 18), (.var 19), (.var 20), (.var 21), (.var 22), (.var 23), (.var 24), (.var 25), (.var 26), (.var 27), (.var 28), (.var 29), (.var 30), (.var 31), (.var 32), (.var 33), (.var 34), (.var 35), (.var 36), (.var 37), (.var 38), (.var 39), (.var 40), (.var 41), (.var 42), (.var 43), (.var 44), (.var 45), (.var 46), (.var 47), (.var 48), (.var 49), (.var 50), (.var 51), (.var 52), (.var 53), (.var 54)]))
  (.evs [.call 2 [(.var 0), (.var 1), (.var 2)] none 13]
   (.ite (.not (.var 15))
   (.ret [(.int .i64 0), (.int .i64 0), (.int .i64 0), (.int .i64 0), (.int .i64 0), (.int .i64 0), (.int .i64 0), (.int .i64 0), (.int .i64 0), (.int .i64 0), (.int .i64 0), (.int .i64 0), (.int .i64 0), (.int .i64 0), (.int .i64 0), (.int .i64 0), (.int .i64 0), (.int .i64 0), (.int .i64 0), (.int .i64 0), (.int .i64 0), (.int .i64 0), (.int .i64 0), (.int .i64 0), (.int .i64 0), (.int .i64 0), (.int .i64 0), (.int .i64 0), (.int .i64 0), (.int .i64 0), (.int .i64 0), (.int .i64 0), (.int .i64 0), (.int .i64 0), (.int .i64 0), (.int .i64 0), (.int .i64 0), (.int .i64 0), (.int .i64 0), (.int .i64 0), (.int .i64 0), (.int .i64 0), (.int .i64 0), (.int .i64 0), (.int .i64 0), (.int .i64 0), (.int .i64 0), (.int .i64 0), (.bool false)])
   (.evs [.call 3 [(.var 3), (.var 4), (.var 5), (.var 6), (.var 7), (.var 8), (.var 9), (.var 10), (.var 11), (.var 12), (.var 13), (.var 14)] none 49]
    (.ret [(.var 16), (.var 17), (.var 18), (.var 19), (.var 20), (.var 21), (.var 22), (.var 23), (.var 24), (.var 25), (.var 26), (.var 27), (.var 28), (.var 29), (.var 30), (.var 31), (.var 32), (.var 33), (.var 34), (.var 35), (.var 36), (.var 37), (.var 38), (.var 39), (.var 40), (.var 41), (.var 42), (.var 43), (.var 44), (.var 45), (.var 46), (.var 47), (.var 48), (.var 49), (.var 50), (.var 51), (.var 52), (.var 53), (.var 54), (.var 55), (.var 56), (.var 57), (.var 58), (.var 59), (.var 60), (.var 61), (.var 62), (.var 63), (.var 64)])))))
def Ss_l7Table : List Spec := [SP_l7Part, G_sTableFade.spec, SP_l7Mat, G_sTableOf.spec]
def SP_l7Table : Spec := SP_ptS
set_option maxHeartbeats 2000000 in
theorem sat_l7Table (P : Program) (ins : List Value) (K : List Value → Prop) (_ : TypedL [.int .u8, .sl, .row .i64 1] ins) (h : SP_l7Table ins K) : sat P Ss_l7Table tr_l7Table ins [] K := by
  obtain ⟨k, x, ns, rfl, ho, hK⟩ := h
  unfold pieceT at hK
  by_cases hk : k = 100
  · subst hk
    obtain ⟨p, q, rfl⟩ := ok_two (.inr (.inr (.inr rfl))) ho
    have hp := ok_part (.inr rfl) ho
    rw [if_pos rfl] at hK
    refine ite_t rfl (evs_step (call_step rfl ⟨_, _, p, q, rfl, hp, call_step rfl ⟨trivial, evs_nil ?_⟩⟩))
    refine Eq.mp (congrArg K ?_) hK
    kernel_rfl
  · rw [if_neg hk] at hK
    refine ite_f (beq_f (m := 100) hk) (evs_step (call_step rfl ⟨k, x, ns, rfl, ho, ?_⟩))
    obtain ⟨g, b, e⟩ := pieceM_lit k ns
    rw [e] at hK ⊢
    refine evs_nil ?_
    cases b with
    | false => exact ite_t rfl hK
    | true =>
      refine ite_f rfl (evs_step (call_step rfl ⟨trivial, evs_nil ?_⟩))
      have hK : K (tofW (ivs g 0 12)) := hK
      refine Eq.mp (congrArg K ?_) hK
      kernel_rfl
def tr_iBenchTable : Tr :=
  (.evs [.call 0 [(.var 0)] none 3]
  (.evs [.call 1 [(.int .i64 1), (.int .i64 0), (.int .i64 1), (.int .i64 1), (.int .i64 0), (.int .i64 1)] none 48]
  (.lp 0 [(.int .i64 0), (.var 2), (.var 4), (.var 5), (.var 6), (.var 7), (.var 8), (.var 9), (.var 10), (.var 11), (.var 12), (.var 13), (.var 14), (.var 15), (.var 16), (.var 17), (.var 18), (.var 19), (.var 20), (.var 21), (.var 22), (.var 23), (.var 24), (.var 25), (.var 26), (.var 27), (.var 28), (.var 29), (.var 30), (.var 31), (.var 32), (.var 33), (.var 34), (.var 35), (.var 36), (.var 37), (.var 38), (.var 39), (.var 40), (.var 41), (.var 42), (.var 43), (.var 44), (.var 45), (.var 46), (.var 47), (.var 48), (.var 49), (.var 50), (.var 51)] [.int .i64, .bool, .int .i64, .int .i64, .int .i64, .int .i64, .int .i64, .int .i64, .int .i64, .int .i64, .int .i64, .int .i64, .int .i64, .int .i64, .int .i64, .int .i64, .int .i64, .int .i64, .int .i64, .int .i64, .int .i64, .int .i64, .int .i64, .int .i64, .int .i64, .int .i64, .int .i64, .int .i64, .int .i64, .int .i64, .int .i64, .int .i64, .int .i64, .int .i64, .int .i64, .int .i64, .int .i64, .int .i64, .int .i64, .int .i64, .int .i64, .int .i64, .int .i64, .int .i64, .int .i64, .int .i64, .int .i64, .int .i64, .int .i64, .int .i64]
  (.ite (.cmp .lss (.var 52) (.len (.var 1)))
   (.evs [.need [(.inb (.var 3) (.var 52) 3)]]
    (.evs [.call 2 [(.sel (.var 3) (.var 52) 3 0), (.hd (.sel (.var 3) (.var 52) 3 1)), (.sel (.var 3) (.var 52) 3 2), (.tl (.sel (.var 3) (.var 52) 3 1))] none 49]
    (.evs [.call 3 [(.var 102), (.var 103), (.var 104), (.var 105), (.var 106), (.var 107), (.var 108), (.var 109), (.var 110), (.var 111), (.var 112), (.var 113), (.var 114), (.var 115), (.var 116), (.var 117), (.var 118), (.var 119), (.var 120), (.var 121), (.var 122), (.var 123), (.var 124), (.var 125), (.var 126), (.var 127), (.var 128), (.var 129), (.var 130), (.var 131), (.var 132), (.var 133), (.var 134), (.var 135), (.var 136), (.var 137), (.var 138), (.var 139), (.var 140), (.var 141), (.var 142), (.var 143), (.var 144), (.var 145), (.var 146), (.var 147), (.var 148), (.var 149), (.var 54), (.var 55), (.var 56), (.var 57), (.var 58), (.var 59), (.var 60), (.var 61), (.var 62), (.var 63), (.var 64), (.var 65), (.var 66), (.var 67), (.var 68), (.var 69), (.var 70), (.var 71), (.var 72), (.var 73), (.var 74), (.var 75), (.var 76), (.var 77), (.var 78), (.var 79), (.var 80), (.var 81), (.var 82), (.var 83), (.var 84), (.var 85), (.var 86), (.var 87), (.var 88), (.var 89), (.var 90), (.var 91), (.var 92), (.var 93), (.var 94), (.var 95), (.var 96), (.var 97), (.var 98), (.var 99), (.var 100), (.var 101)] none 49]
    (.next 0 [(.ar .add .i64 (.var 52) (.int .i64 1)), (.ite (.ite (.var 53) (.var 150) (.bool false)) (.var 199) (.bool false)), (.var 151), (.var 152), (.var 153), (.var 154), (.var 155), (.var 156), (.var 157), (.var 158), (.var 159), (.var 160), (.var 161), (.var 162), (.var 163), (.var 164), (.var 165), (.var 166), (.var 167), (.var 168), (.var 169), (.var 170), (.var 171), (.var 172), (.var 173), (.var 174), (.var 175), (.var 176), (.var 177), (.var 178), (.var 179), (.var 180), (.var 181), (.var 182), (.var 183), (.var 184), (.var 185), (.var 186), (.var 187), (.var 188), (.var 189), (.var 190), (.var 191), (.var 192), (.var 193), (.var 194), (.var 195), (.var 196), (.var 197), (.var 198)]))))
   (.ite (.not (.var 53))
    (.ret [(.int .i64 0), (.int .i64 0), (.int .i64 0), (.int .i64 0), (.int .i64 0), (.int .i64 0), (.int .i64 0), (.int .i64 0), (.int .i64 0), (.int .i64 0), (.int .i64 0), (.int .i64 0), (.int .i64 0), (.int .i64 0), (.int .i64 0), (.int .i64 0), (.int .i64 0), (.int .i64 0), (.int .i64 0), (.int .i64 0), (.int .i64 0), (.int .i64 0), (.int .i64 0), (.int .i64 0), (.int .i64 0), (.int .i64 0), (.int .i64 0), (.int .i64 0), (.int .i64 0), (.int .i64 0), (.int .i64 0), (.int .i64 0), (.int .i64 0), (.int .i64 0), (.int .i64 0), (.int .i64 0), (.int .i64 0), (.int .i64 0), (.int .i64 0), (.int .i64 0), (.int .i64 0), (.int .i64 0), (.int .i64 0), (.int .i64 0), (.int .i64 0), (.int .i64 0), (.int .i64 0), (.int .i64 0), (.bool false)])
    (.ret [(.var 54), (.var 55), (.var 56), (.var 57), (.var 58), (.var 59), (.var 60), (.var 61), (.var 62), (.var 63), (.var 64), (.var 65), (.var 66), (.var 67), (.var 68), (.var 69), (.var 70), (.var 71), (.var 72), (.var 73), (.var 74), (.var 75), (.var 76), (.var 77), (.var 78), (.var 79), (.var 80), (.var 81), (.var 82), (.var 83), (.var 84), (.var 85), (.var 86), (.var 87), (.var 88), (.var 89), (.var 90), (.var 91), (.var 92), (.var 93), (.var 94), (.var 95), (.var 96), (.var 97), (.var 98), (.var 99), (.var 100), (.var 101), (.bool true)]))))))
def Ss_iBenchTable : List Spec := [SP_readBench, F_iDiag.spec, SP_table, G_iTableTimes.spec]
def unitG (i : Nat) : Int := if i % 3 = 2 then 1 else if i = 0 then 1 else if i = 15 then 1 else if i = 30 then 1 else if i = 45 then 1 else 0
def ttmW (ins : List Value) : List Value := ttW (tabQ (fun k => q3 ins (3 * k)) && tabQ (fun k => q3 ins (48 + 3 * k))) (dotK (fun k => q3 ins (3 * k)) (fun k => q3 ins (48 + 3 * k)))
def ttsT (h g : Nat → Int) : Bool := ttT (tabQ (fun k => q3 (ivs h 0 48 ++ ivs g 0 48) (3 * k)) && tabQ (fun k => q3 (ivs h 0 48 ++ ivs g 0 48) (48 + 3 * k))) (dotK (fun k => q3 (ivs h 0 48 ++ ivs g 0 48) (3 * k)) (fun k => q3 (ivs h 0 48 ++ ivs g 0 48) (48 + 3 * k)))
def ttsN (h g : Nat → Int) : Nat → Int := ttH (tabQ (fun k => q3 (ivs h 0 48 ++ ivs g 0 48) (3 * k)) && tabQ (fun k => q3 (ivs h 0 48 ++ ivs g 0 48) (48 + 3 * k))) (dotK (fun k => q3 (ivs h 0 48 ++ ivs g 0 48) (3 * k)) (fun k => q3 (ivs h 0 48 ++ ivs g 0 48) (48 + 3 * k)))
def stepT (p : Pc) (acc : List Value) : Option (List Value) :=
  if (b0 (pieceT p.k p.ns) 48 && b0 (ttmW ((pieceT p.k p.ns).take 48 ++ acc)) 48) = true then some ((ttmW ((pieceT p.k p.ns).take 48 ++ acc)).take 48) else none
theorem stepT_lit {p : Pc} {h g : Nat → Int} {b : Bool} (e : pieceT p.k p.ns = ivs h 0 48 ++ [.bool b]) : stepT p (ivs g 0 48) = if (b && ttsT h g) = true then some (ivs (ttsN h g) 0 48) else none := by
  unfold stepT
  rw [e]
  rfl
def benchT (acc : Option (List Value)) : List Pc → Option (List Value)
  | [] => acc
  | p :: r => benchT (acc.bind (stepT p)) r
theorem benchT_snoc (p : Pc) : ∀ (l : List Pc) (acc : Option (List Value)), benchT acc (l ++ [p]) = (benchT acc l).bind (stepT p)
  | [], acc => rfl
  | q :: r, acc => benchT_snoc p r _
theorem benchT_none : ∀ l : List Pc, benchT none l = none
  | [] => rfl
  | _ :: r => benchT_none r
theorem benchT_stop {l : List Pc} {i : Nat} {acc : Option (List Value)} (h : benchT acc (l.take i) = none) : benchT acc l = none := by
  have e : l = l.take i ++ l.drop i := (List.take_append_drop i l).symm
  have key : ∀ (a b : List Pc) (acc : Option (List Value)), benchT acc (a ++ b) = benchT (benchT acc a) b := by
    intro a
    induction a with
    | nil => intro b acc; rfl
    | cons p r ih => intro b acc; exact ih b _
  rw [e, key, h, benchT_none]
def BtAt (ps : List Pc) (i : Nat) (ok : Bool) (g : Nat → Int) : Prop := if ok = true then benchT (some (ivs unitG 0 48)) (ps.take i) = some (ivs g 0 48) else benchT (some (ivs unitG 0 48)) (ps.take i) = none
theorem btAt_step {ps : List Pc} {i : Nat} {ok b : Bool} {g h : Nat → Int} {p : Pc} (ha : BtAt ps i ok g) (hp : ps[i]? = some p) (e : pieceT p.k p.ns = ivs h 0 48 ++ [.bool b]) : BtAt ps (i + 1) (ok && b && ttsT h g) (ttsN h g) := by
  unfold BtAt at ha ⊢
  have ht : ps.take (i + 1) = ps.take i ++ [p] := by rw [List.take_add_one, hp]; rfl
  rw [ht, benchT_snoc]
  cases ok with
  | false =>
    have ha : benchT (some (ivs unitG 0 48)) (ps.take i) = none := ha
    rw [ha]
    rfl
  | true =>
    have ha : benchT (some (ivs unitG 0 48)) (ps.take i) = some (ivs g 0 48) := ha
    rw [ha]
    show if (b && ttsT h g) = true then stepT p (ivs g 0 48) = _ else stepT p (ivs g 0 48) = _
    rw [stepT_lit e]
    cases b && ttsT h g <;> rfl
def benchTV (s : List UInt8) : List Value := match benchW s with
  | some ps => (match benchT (some (ivs unitG 0 48)) ps with
    | some acc => acc ++ [.bool true]
    | none => zeros 48 ++ [.bool false])
  | none => zeros 48 ++ [.bool false]
def SP_iBenchTable : Spec := fun ins K => ∃ s, ins = [bv s] ∧ s.length ≤ 2097152 ∧ K (benchTV s)
set_option maxHeartbeats 4000000 in
theorem sat_iBenchTable (P : Program) (ins : List Value) (K : List Value → Prop) (_ : TypedL [.str] ins) (h : SP_iBenchTable ins K) : sat P Ss_iBenchTable tr_iBenchTable ins [] K := by
  obtain ⟨s, rfl, hl, hK⟩ := h
  refine evs_step (call_step rfl ⟨s, rfl, hl, ?_⟩)
  unfold benchTV at hK
  cases hb : benchW s with
  | none =>
    rw [hb] at hK
    refine evs_nil (evs_step (call_step rfl ⟨trivial, evs_nil ?_⟩))
    refine ⟨fun vs => ∃ g : Nat → Int, vs = [.int .i64 0, .bool false] ++ ivs g 0 48, fun _ => 0, ⟨unitG, rfl⟩, ?_⟩
    rintro vs _ ⟨g, rfl⟩
    exact ite_f rfl (ite_t rfl hK)
  | some ps =>
    rw [hb] at hK
    dsimp only at hK
    have hok := benchW_ok hb
    intro a len cap l e1 hsl he
    subst he
    refine evs_nil (evs_step (call_step rfl ⟨trivial, evs_nil ?_⟩))
    refine ⟨fun vs => ∃ (i : Nat) (ok : Bool) (g : Nat → Int), vs = [.int .i64 i, .bool ok] ++ ivs g 0 48 ∧ i ≤ ps.length ∧ BtAt ps i ok g, fun vs => ps.length - (toI (vs.getD 0 undef)).toNat, ⟨0, true, unitG, rfl, by omega, rfl⟩, ?_⟩
    have h12 := (benchW_some hb).1
    have hll : l.length = ps.length := by rw [← e1, List.length_map]
    rintro vs _ ⟨i, ok, g, rfl, hi, hat⟩
    refine ⟨fun hc => ?_, fun hc => ?_⟩
    · have hlt : i < ps.length := by
        have hc : Value.bool (decide ((i : Int) < (ps.length : Int))) = .bool true := hc
        have := bt_of hc; omega
      have hlt2 : i < l.length := by omega
      have hx := List.getElem?_eq_getElem hlt2
      generalize l[i] = x at hx
      have hp : ps[i]? = some x.1 := by rw [← e1, List.getElem?_map, hx]; rfl
      obtain ⟨h, b, e⟩ := pieceT_lit x.1.k x.1.ns
      have hw : IntKind.i64.wrap ((i : Int) + 1) = ((i + 1 : Nat) : Int) := by rw [wrap_in (by omega)]; omega
      refine evs_step (need_step (all_cons (inb_true (c := rowB l) (i := i) (n := 3) (by rw [rowB_size]; omega)) all_nil) (evs_nil ?_))
      refine evs_step (call_step rfl ⟨x.1.k, x.2, bv x.1.t, x.1.ns, ?_, hok _ (List.mem_of_getElem? hp), evs_nil ?_⟩)
      · show [(rowB l).cells.getD ((i : Int).toNat * 3 + 0) undef, hdV ((rowB l).cells.getD ((i : Int).toNat * 3 + 1) undef), (rowB l).cells.getD ((i : Int).toNat * 3 + 2) undef, tlV ((rowB l).cells.getD ((i : Int).toNat * 3 + 1) undef)] = _
        rw [Int.toNat_natCast, rowB_get hx (by omega) rfl, rowB_get hx (by omega) rfl, rowB_get hx (by omega) rfl]
        rfl
      rw [e]
      refine evs_step (call_step rfl ⟨trivial, evs_nil ?_⟩)
      refine ⟨⟨i + 1, ok && b && ttsT h g, ttsN h g, ?_, by omega, btAt_step hat hp e⟩, ?_⟩
      · refine Eq.trans (b := [.int .i64 (IntKind.i64.wrap ((i : Int) + 1)), andV (andV (.bool ok) (.bool b)) (.bool (ttsT h g))] ++ ivs (ttsN h g) 0 48) (by kernel_rfl) ?_
        rw [hw, andV_b, andV_b]
      · show ps.length - (toI (.int .i64 (IntKind.i64.wrap ((i : Int) + 1)))).toNat < ps.length - (toI (.int .i64 (i : Int))).toNat
        rw [hw]
        simp only [toI_int]
        omega
    · have hge : i = ps.length := by
        have hc : Value.bool (decide ((i : Int) < (ps.length : Int))) = .bool false := hc
        have := bf_of hc; omega
      subst hge
      unfold BtAt at hat
      rw [List.take_length] at hat
      cases ok with
      | false =>
        have hat : benchT (some (ivs unitG 0 48)) ps = none := hat
        rw [hat] at hK
        exact ite_t rfl hK
      | true =>
        have hat : benchT (some (ivs unitG 0 48)) ps = some (ivs g 0 48) := hat
        rw [hat] at hK
        exact ite_f rfl hK
def tr_sBenchTable : Tr :=
  (.evs [.call 0 [(.var 0)] none 3]
  (.evs [.call 1 [] none 48]
  (.lp 0 [(.int .i64 0), (.var 2), (.var 4), (.var 5), (.var 6), (.var 7), (.var 8), (.var 9), (.var 10), (.var 11), (.var 12), (.var 13), (.var 14), (.var 15), (.var 16), (.var 17), (.var 18), (.var 19), (.var 20), (.var 21), (.var 22), (.var 23), (.var 24), (.var 25), (.var 26), (.var 27), (.var 28), (.var 29), (.var 30), (.var 31), (.var 32), (.var 33), (.var 34), (.var 35), (.var 36), (.var 37), (.var 38), (.var 39), (.var 40), (.var 41), (.var 42), (.var 43), (.var 44), (.var 45), (.var 46), (.var 47), (.var 48), (.var 49), (.var 50), (.var 51)] [.int .i64, .bool, .int .i64, .int .i64, .int .i64, .int .i64, .int .i64, .int .i64, .int .i64, .int .i64, .int .i64, .int .i64, .int .i64, .int .i64, .int .i64, .int .i64, .int .i64, .int .i64, .int .i64, .int .i64, .int .i64, .int .i64, .int .i64, .int .i64, .int .i64, .int .i64, .int .i64, .int .i64, .int .i64, .int .i64, .int .i64, .int .i64, .int .i64, .int .i64, .int .i64, .int .i64, .int .i64, .int .i64, .int .i64, .int .i64, .int .i64, .int .i64, .int .i64, .int .i64, .int .i64, .int .i64, .int .i64, .int .i64, .int .i64, .int .i64]
  (.ite (.ite (.cmp .lss (.var 52) (.len (.var 1))) (.var 53) (.bool false))
   (.evs [.need [(.inb (.var 3) (.var 52) 2)],
      .call 2 [(.sel (.var 3) (.var 52) 2 0), (.hd (.sel (.var 3) (.var 52) 2 1)), (.tl (.sel (.var 3) (.var 52) 2 1))] none 49]
    (.evs [.call 3 [(.var 102), (.var 103), (.var 104), (.var 105), (.var 106), (.var 107), (.var 108), (.var 109), (.var 110), (.var 111), (.var 112), (.var 113), (.var 114), (.var 115), (.var 116), (.var 117), (.var 118), (.var 119), (.var 120), (.var 121), (.var 122), (.var 123), (.var 124), (.var 125), (.var 126), (.var 127), (.var 128), (.var 129), (.var 130), (.var 131), (.var 132), (.var 133), (.var 134), (.var 135), (.var 136), (.var 137), (.var 138), (.var 139), (.var 140), (.var 141), (.var 142), (.var 143), (.var 144), (.var 145), (.var 146), (.var 147), (.var 148), (.var 149), (.var 54), (.var 55), (.var 56), (.var 57), (.var 58), (.var 59), (.var 60), (.var 61), (.var 62), (.var 63), (.var 64), (.var 65), (.var 66), (.var 67), (.var 68), (.var 69), (.var 70), (.var 71), (.var 72), (.var 73), (.var 74), (.var 75), (.var 76), (.var 77), (.var 78), (.var 79), (.var 80), (.var 81), (.var 82), (.var 83), (.var 84), (.var 85), (.var 86), (.var 87), (.var 88), (.var 89), (.var 90), (.var 91), (.var 92), (.var 93), (.var 94), (.var 95), (.var 96), (.var 97), (.var 98), (.var 99), (.var 100), (.var 101)] none 49]
    (.next 0 [(.ar .add .i64 (.var 52) (.int .i64 1)), (.ite (.var 150) (.var 199) (.bool false)), (.var 151), (.var 152), (.var 153), (.var 154), (.var 155), (.var 156), (.var 157), (.var 158), (.var 159), (.var 160), (.var 161), (.var 162), (.var 163), (.var 164), (.var 165), (.var 166), (.var 167), (.var 168), (.var 169), (.var 170), (.var 171), (.var 172), (.var 173), (.var 174), (.var 175), (.var 176), (.var 177), (.var 178), (.var 179), (.var 180), (.var 181), (.var 182), (.var 183), (.var 184), (.var 185), (.var 186), (.var 187), (.var 188), (.var 189), (.var 190), (.var 191), (.var 192), (.var 193), (.var 194), (.var 195), (.var 196), (.var 197), (.var 198)])))
   (.ite (.not (.var 53))
    (.ret [(.int .i64 0), (.int .i64 0), (.int .i64 0), (.int .i64 0), (.int .i64 0), (.int .i64 0), (.int .i64 0), (.int .i64 0), (.int .i64 0), (.int .i64 0), (.int .i64 0), (.int .i64 0), (.int .i64 0), (.int .i64 0), (.int .i64 0), (.int .i64 0), (.int .i64 0), (.int .i64 0), (.int .i64 0), (.int .i64 0), (.int .i64 0), (.int .i64 0), (.int .i64 0), (.int .i64 0), (.int .i64 0), (.int .i64 0), (.int .i64 0), (.int .i64 0), (.int .i64 0), (.int .i64 0), (.int .i64 0), (.int .i64 0), (.int .i64 0), (.int .i64 0), (.int .i64 0), (.int .i64 0), (.int .i64 0), (.int .i64 0), (.int .i64 0), (.int .i64 0), (.int .i64 0), (.int .i64 0), (.int .i64 0), (.int .i64 0), (.int .i64 0), (.int .i64 0), (.int .i64 0), (.int .i64 0), (.bool false)])
    (.ret [(.var 54), (.var 55), (.var 56), (.var 57), (.var 58), (.var 59), (.var 60), (.var 61), (.var 62), (.var 63), (.var 64), (.var 65), (.var 66), (.var 67), (.var 68), (.var 69), (.var 70), (.var 71), (.var 72), (.var 73), (.var 74), (.var 75), (.var 76), (.var 77), (.var 78), (.var 79), (.var 80), (.var 81), (.var 82), (.var 83), (.var 84), (.var 85), (.var 86), (.var 87), (.var 88), (.var 89), (.var 90), (.var 91), (.var 92), (.var 93), (.var 94), (.var 95), (.var 96), (.var 97), (.var 98), (.var 99), (.var 100), (.var 101), (.bool true)]))))))
def Ss_sBenchTable : List Spec := [SP_l7Bench, F_l6tUnit.spec, SP_l7Table, G_sTableTimes.spec]
theorem unit_pre : F_l6tUnit.pre [] := okT_free (by intro F hF ins; simp only [Fs_l6tUnit, List.mem_singleton] at hF; rw [hF]; exact okT_free (fun F hF => by cases hF) _ _ (by kernel_rfl)) _ _ (by kernel_rfl)
def SP_sBenchTable : Spec := fun ins K => ∃ s, ins = [bv s] ∧ K (benchTV s)
set_option maxHeartbeats 4000000 in
theorem sat_sBenchTable (P : Program) (ins : List Value) (K : List Value → Prop) (_ : TypedL [.str] ins) (h : SP_sBenchTable ins K) : sat P Ss_sBenchTable tr_sBenchTable ins [] K := by
  obtain ⟨s, rfl, hK⟩ := h
  refine evs_step (call_step rfl ⟨s, rfl, ?_⟩)
  unfold benchTV at hK
  cases hb : benchW s with
  | none =>
    rw [hb] at hK
    intro x c
    refine evs_nil (evs_step (call_step rfl ⟨unit_pre, evs_nil ?_⟩))
    refine ⟨fun vs => ∃ g : Nat → Int, vs = [.int .i64 0, .bool false] ++ ivs g 0 48, fun _ => 0, ⟨unitG, rfl⟩, ?_⟩
    rintro vs _ ⟨g, rfl⟩
    refine ⟨fun hc => ?_, fun _ => ite_t rfl hK⟩
    have hc : (if toB (Value.bool (decide ((0 : Int) < lenV x))) = true then Value.bool false else .bool false) = .bool true := hc
    split at hc <;> cases hc
  | some ps =>
    rw [hb] at hK
    dsimp only at hK
    have hok := benchW_ok hb
    intro a len cap l e1 hsl he
    subst he
    refine evs_nil (evs_step (call_step rfl ⟨unit_pre, evs_nil ?_⟩))
    refine ⟨fun vs => ∃ (i : Nat) (ok : Bool) (g : Nat → Int), vs = [.int .i64 i, .bool ok] ++ ivs g 0 48 ∧ i ≤ ps.length ∧ BtAt ps i ok g, fun vs => ps.length - (toI (vs.getD 0 undef)).toNat, ⟨0, true, unitG, rfl, by omega, rfl⟩, ?_⟩
    have h12 := (benchW_some hb).1
    have hll : l.length = ps.length := by rw [← e1, List.length_map]
    rintro vs _ ⟨i, ok, g, rfl, hi, hat⟩
    refine ⟨fun hc => ?_, fun hc => ?_⟩
    · have hc : (if toB (Value.bool (decide ((i : Int) < (ps.length : Int)))) = true then Value.bool ok else .bool false) = .bool true := hc
      by_cases hlt : i < ps.length
      · rw [decide_eq_true (by omega)] at hc
        have hc : ok = true := Value.bool.inj hc
        subst hc
        have hlt2 : i < l.length := by omega
        have hx := List.getElem?_eq_getElem hlt2
        generalize l[i] = x at hx
        have hp : ps[i]? = some x.1 := by rw [← e1, List.getElem?_map, hx]; rfl
        obtain ⟨h, b, e⟩ := pieceT_lit x.1.k x.1.ns
        have hw : IntKind.i64.wrap ((i : Int) + 1) = ((i + 1 : Nat) : Int) := by rw [wrap_in (by omega)]; omega
        refine evs_step (need_step (all_cons (inb_true (c := rowL l) (i := i) (n := 2) (by rw [rowL_size]; omega)) all_nil) ?_)
        refine call_step rfl ⟨x.1.k, x.2, x.1.ns, ?_, hok _ (List.mem_of_getElem? hp), evs_nil ?_⟩
        · show [(rowL l).cells.getD ((i : Int).toNat * 2 + 0) undef, hdV ((rowL l).cells.getD ((i : Int).toNat * 2 + 1) undef), tlV ((rowL l).cells.getD ((i : Int).toNat * 2 + 1) undef)] = _
          rw [Int.toNat_natCast, rowL_get hx (by omega) rfl, rowL_get hx (by omega) rfl]
          rfl
        rw [e]
        refine evs_step (call_step rfl ⟨trivial, evs_nil ?_⟩)
        have hst := btAt_step hat hp e
        rw [Bool.true_and] at hst
        refine ⟨⟨i + 1, b && ttsT h g, ttsN h g, ?_, by omega, hst⟩, ?_⟩
        · refine Eq.trans (b := [.int .i64 (IntKind.i64.wrap ((i : Int) + 1)), andV (.bool b) (.bool (ttsT h g))] ++ ivs (ttsN h g) 0 48) (by kernel_rfl) ?_
          rw [hw, andV_b]
        · show ps.length - (toI (.int .i64 (IntKind.i64.wrap ((i : Int) + 1)))).toNat < ps.length - (toI (.int .i64 (i : Int))).toNat
          rw [hw]
          simp only [toI_int]
          omega
      · rw [decide_eq_false (by omega)] at hc
        cases hc
    · have hc : (if toB (Value.bool (decide ((i : Int) < (ps.length : Int)))) = true then Value.bool ok else .bool false) = .bool false := hc
      unfold BtAt at hat
      cases ok with
      | false =>
        have hat : benchT (some (ivs unitG 0 48)) (ps.take i) = none := hat
        rw [benchT_stop hat] at hK
        exact ite_t rfl hK
      | true =>
        have hge : i = ps.length := by
          by_cases hlt : i < ps.length
          · rw [decide_eq_true (by omega)] at hc
            cases hc
          · omega
        subst hge
        have hat : benchT (some (ivs unitG 0 48)) (ps.take ps.length) = some (ivs g 0 48) := hat
        rw [List.take_length] at hat
        rw [hat] at hK
        exact ite_f rfl hK
def tr_FnExactBenchTable : Tr :=
  (.ite (.cmp .gtr (.len (.var 0)) (.int .i64 1048576))
  (.ret [(.bool true)])
  (.evs [.call 0 [(.var 0)] none 49]
   (.evs [.call 1 [(.var 0)] none 49]
   (.evs [.call 2 [(.var 50), (.var 51), (.var 52), (.var 53), (.var 54), (.var 55), (.var 56), (.var 57), (.var 58), (.var 59), (.var 60), (.var 61), (.var 62), (.var 63), (.var 64), (.var 65), (.var 66), (.var 67), (.var 68), (.var 69), (.var 70), (.var 71), (.var 72), (.var 73), (.var 74), (.var 75), (.var 76), (.var 77), (.var 78), (.var 79), (.var 80), (.var 81), (.var 82), (.var 83), (.var 84), (.var 85), (.var 86), (.var 87), (.var 88), (.var 89), (.var 90), (.var 91), (.var 92), (.var 93), (.var 94), (.var 95), (.var 96), (.var 97), (.var 1), (.var 2), (.var 3), (.var 4), (.var 5), (.var 6), (.var 7), (.var 8), (.var 9), (.var 10), (.var 11), (.var 12), (.var 13), (.var 14), (.var 15), (.var 16), (.var 17), (.var 18), (.var 19), (.var 20), (.var 21), (.var 22), (.var 23), (.var 24), (.var 25), (.var 26), (.var 27), (.var 28), (.var 29), (.var 30), (.var 31), (.var 32), (.var 33), (.var 34), (.var 35), (.var 36), (.var 37), (.var 38), (.var 39), (.var 40), (.var 41), (.var 42), (.var 43), (.var 44), (.var 45), (.var 46), (.var 47), (.var 48)] none 1]
   (.ite (.ite (.not (.var 99)) (.bool true) (.not (.eqb (.var 98) (.var 49))))
   (.ret [(.bool false)])
   (.ret [(.bool true)]))))))
def Ss_FnExactBenchTable : List Spec := [SP_sBenchTable, SP_iBenchTable, G_eqTable.spec]
def F_FnExactBenchTable : Fun1 := ⟨fun _ => True, fun _ => [.bool true]⟩
theorem benchTV_lit (s : List UInt8) : ∃ (g : Nat → Int) (b : Bool), benchTV s = ivs g 0 48 ++ [.bool b] := by
  have key : ∀ (l : List Pc) (acc : Option (List Value)) (o : List Value), (∀ a, acc = some a → ∃ g : Nat → Int, a = ivs g 0 48) → benchT acc l = some o → ∃ g : Nat → Int, o = ivs g 0 48 := by
    intro l
    induction l with
    | nil => intro acc o h1 h2; exact h1 o h2
    | cons p r ih =>
      intro acc o h1 h2
      refine ih _ o ?_ h2
      intro a ha
      obtain ⟨c, hc, h3⟩ := Option.bind_eq_some_iff.1 ha
      obtain ⟨g, rfl⟩ := h1 c hc
      obtain ⟨h, b, e⟩ := pieceT_lit p.k p.ns
      rw [stepT_lit e] at h3
      split at h3
      · exact ⟨_, (Option.some.inj h3).symm⟩
      · cases h3
  unfold benchTV
  split
  · split
    · rename_i o ho
      obtain ⟨g, rfl⟩ := key _ _ _ (fun a ha => ⟨unitG, (Option.some.inj ha).symm⟩) ho
      exact ⟨g, true, rfl⟩
    · exact ⟨fun _ => 0, false, rfl⟩
  · exact ⟨fun _ => 0, false, rfl⟩
theorem eqT_selfB (h : Nat → Int) : G_eqTable.out (ivs h 0 48 ++ ivs h 0 48) = [.bool true] := by
  have e : G_eqTable.out (ivs h 0 48 ++ ivs h 0 48) = [.bool (eqQ (h 0, h 1, h 2) (h 0, h 1, h 2) && (eqQ (h 3, h 4, h 5) (h 3, h 4, h 5) && (eqQ (h 6, h 7, h 8) (h 6, h 7, h 8) && (eqQ (h 9, h 10, h 11) (h 9, h 10, h 11) && (eqQ (h 12, h 13, h 14) (h 12, h 13, h 14) && (eqQ (h 15, h 16, h 17) (h 15, h 16, h 17) && (eqQ (h 18, h 19, h 20) (h 18, h 19, h 20) && (eqQ (h 21, h 22, h 23) (h 21, h 22, h 23) && (eqQ (h 24, h 25, h 26) (h 24, h 25, h 26) && (eqQ (h 27, h 28, h 29) (h 27, h 28, h 29) && (eqQ (h 30, h 31, h 32) (h 30, h 31, h 32) && (eqQ (h 33, h 34, h 35) (h 33, h 34, h 35) && (eqQ (h 36, h 37, h 38) (h 36, h 37, h 38) && (eqQ (h 39, h 40, h 41) (h 39, h 40, h 41) && (eqQ (h 42, h 43, h 44) (h 42, h 43, h 44) && (eqQ (h 45, h 46, h 47) (h 45, h 46, h 47) && true))))))))))))))))] := by kernel_rfl
  rw [e]
  simp [eqQ]
theorem sat_FnExactBenchTable (P : Program) (ins : List Value) (K : List Value → Prop) (ht : TypedL [.str] ins) (_ : F_FnExactBenchTable.pre ins) (hK : K (F_FnExactBenchTable.out ins)) : sat P Ss_FnExactBenchTable tr_FnExactBenchTable ins [] K := by
  obtain ⟨l, rfl⟩ := str_one ht
  refine ⟨fun _ => hK, fun hc => ?_⟩
  have hl : l.length ≤ 1048576 := by
    have := len_if (l := l) hc
    have := of_decide_eq_false this.symm
    omega
  obtain ⟨h, t, e⟩ := benchTV_lit l
  refine evs_step (call_step rfl ⟨l, rfl, evs_nil ?_⟩)
  refine evs_step (call_step rfl ⟨l, rfl, by omega, evs_nil ?_⟩)
  rw [e]
  refine evs_step (call_step rfl ⟨trivial, evs_nil ?_⟩)
  show sat P _ _ ([bv l] ++ (ivs h 0 48 ++ [.bool t]) ++ (ivs h 0 48 ++ [.bool t]) ++ G_eqTable.out (ivs h 0 48 ++ ivs h 0 48)) _ K
  rw [eqT_selfB]
  refine ite_f ?_ hK
  show (if toB (Value.bool (!true)) = true then Value.bool true else Value.bool (!(t == t))) = _
  simp
theorem law_FnExactBenchTable (ins : List Value) (_ : TypedL [.str] ins) : F_FnExactBenchTable.pre ins ∧ F_FnExactBenchTable.out ins = [.bool true] := ⟨trivial, rfl⟩

end Go.Sx

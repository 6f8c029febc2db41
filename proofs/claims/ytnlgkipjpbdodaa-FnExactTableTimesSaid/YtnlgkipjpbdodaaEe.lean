/- Lists, mixtures, laws. A part of the proof of FnExactTableTimes; no conditions. -/
import Derived.Test.YtnlgkipjpbdodaaEd
/- Lists of sums of products, of whatever length; mixtures. -/
namespace Go.Sx
open Go

def nttV (n : Nat) (ok : Bool) (d : Nat → Option Q) : List Value :=
  if ok && allB (fun i => (d i).isSome) 0 n then fl3 (listD d 0 n) ++ [.bool true] else zeros (3 * n) ++ [.bool false]
theorem nttI_eq {c : Nat → Bool → Q × Bool} {d : Nat → Option Q} (h : ∀ k s, (c k s).2 = (s || !(d k).isSome) ∧ ∀ v, d k = some v → (c k s).1 = v) (n : Nat) (ok : Bool) :
    gotL (cellsI c 0 n (!ok)).2 (cellsI c 0 n (!ok)).1 ++ [.bool (!(cellsI c 0 n (!ok)).2)] = nttV n ok d := by
  obtain ⟨h1, h2, h3⟩ := cellsI_spec h n 0 (!ok)
  unfold nttV
  cases hc : (ok && allB (fun i => (d i).isSome) 0 n) with
  | true =>
    simp only [Bool.and_eq_true] at hc
    rw [h2, h3 hc.2, hc.1, hc.2]
    simp only [Bool.not_true, Bool.or_self, if_true, gotL_good, Bool.not_false]
  | false =>
    have : (cellsI c 0 n (!ok)).2 = true := by
      rw [h2]
      revert hc
      generalize allB (fun i => (d i).isSome) 0 n = x
      cases ok <;> cases x <;> simp
    rw [this, gotL_bad, h1]
    simp
def nfinS (n : Nat) (s : Bool) (l : List Q) : List Value := if toB (.bool (!s)) = true then zeros (3 * n) ++ [.bool false] else fl3 l ++ [.bool true]
def nnestS (m : Nat) (c : Nat → Bool → Q × Bool) : Nat → Nat → List Q → Bool → List Value
  | 0, _, acc, s => nfinS m s acc
  | n + 1, k, acc, s => if toB (.bool s) = true then nnestS m c n (k + 1) (acc ++ [(c k s).1]) (c k s).2 else nfinS m s (acc ++ padQ (n + 1))
theorem nnestS_spec {m : Nat} {c : Nat → Bool → Q × Bool} {d : Nat → Option Q} (h : ∀ k s, (c k s).2 = (s && (d k).isSome) ∧ ∀ v, d k = some v → (c k s).1 = v) : ∀ n k acc s,
    nnestS m c n k acc s = if s && allB (fun i => (d i).isSome) k n then fl3 (acc ++ listD d k n) ++ [.bool true] else zeros (3 * m) ++ [.bool false]
  | 0, k, acc, s => by
    simp only [nnestS, nfinS, allB, Bool.and_true, listD, List.append_nil]
    cases s <;> simp
  | n + 1, k, acc, s => by
    obtain ⟨h1, h2⟩ := h k s
    simp only [nnestS, nnestS_spec h n (k + 1), allB, h1]
    cases s with
    | false => simp [nfinS]
    | true =>
      simp only [listD]
      by_cases hd : (d k).isSome = true
      · obtain ⟨v, hv⟩ := Option.isSome_iff_exists.1 hd
        simp [hv, h2 v hv]
      · simp [hd]
theorem nttS_eq {c : Nat → Bool → Q × Bool} {d : Nat → Option Q} (h : ∀ k s, (c k s).2 = (s && (d k).isSome) ∧ ∀ v, d k = some v → (c k s).1 = v) (n : Nat) (ok : Bool) : nnestS n c n 0 [] ok = nttV n ok d := by
  rw [nnestS_spec h]
  rfl
/-- The reference's way that stops at the first that fails. -/
def nestM (m : Nat) (d : Nat → Option Q) : Nat → Nat → List Q → List Value
  | 0, _, acc => fl3 acc ++ [.bool true]
  | n + 1, k, acc => if toB (.bool (!(d k).isSome)) = true then zeros (3 * m) ++ [.bool false] else nestM m d n (k + 1) (acc ++ [(d k).getD zq])
theorem nestM_spec {m : Nat} {d : Nat → Option Q} : ∀ n k acc, nestM m d n k acc = if allB (fun i => (d i).isSome) k n then fl3 (acc ++ listD d k n) ++ [.bool true] else zeros (3 * m) ++ [.bool false]
  | 0, k, acc => by simp [nestM, allB, listD]
  | n + 1, k, acc => by
    simp only [nestM, nestM_spec n (k + 1), allB, toB_bool, listD]
    by_cases hd : (d k).isSome = true <;> simp [hd]
theorem nestM_eq {d : Nat → Option Q} (n : Nat) : nestM n d n 0 [] = nttV n true d := by
  rw [nestM_spec]
  rfl
def nttT (n : Nat) (ok : Bool) (d : Nat → Option Q) : Bool := ok && allB (fun i => (d i).isSome) 0 n
def nttH (n : Nat) (ok : Bool) (d : Nat → Option Q) : Nat → Int := fun i => if nttT n ok d = true then cmpQ ((d (i / 3)).getD zq) (i % 3) else 0
/-- A list of that many fractions, or noughts. -/
def nttW (n : Nat) (ok : Bool) (d : Nat → Option Q) : List Value := ivs (nttH n ok d) 0 (3 * n) ++ [.bool (nttT n ok d)]
theorem fl3_ivs (d : Nat → Option Q) : ∀ n k, fl3 (listD d k n) = ivs (fun i => cmpQ ((d (i / 3)).getD zq) (i % 3)) (3 * k) (3 * n)
  | 0, k => rfl
  | n + 1, k => by
    have e : 3 * (n + 1) = 3 * n + 3 := by omega
    rw [e]
    simp only [listD, fl3, ivs]
    have e0 : (3 * k) / 3 = k ∧ (3 * k) % 3 = 0 := by omega
    have e1 : (3 * k + 1) / 3 = k ∧ (3 * k + 1) % 3 = 1 := by omega
    have e2 : (3 * k + 1 + 1) / 3 = k ∧ (3 * k + 1 + 1) % 3 = 2 := by omega
    rw [fl3_ivs d n (k + 1), e0.1, e0.2, e1.1, e1.2, e2.1, e2.2]
    rfl
theorem zeros_ivs : ∀ n k, zeros n = ivs (fun _ => 0) k n
  | 0, _ => rfl
  | n + 1, k => by rw [zeros, ivs, zeros_ivs n (k + 1)]
theorem nttV_eq (n : Nat) (ok : Bool) (d : Nat → Option Q) : nttV n ok d = nttW n ok d := by
  unfold nttV nttW
  have e : nttT n ok d = (ok && allB (fun i => (d i).isSome) 0 n) := rfl
  rw [← e]
  have h2 : nttH n ok d = fun i => if nttT n ok d = true then cmpQ ((d (i / 3)).getD zq) (i % 3) else 0 := rfl
  rw [h2]
  generalize nttT n ok d = t
  cases t
  · simp only [Bool.false_eq_true, if_false]
    rw [zeros_ivs (3 * n) 0]
  · simp only [if_true]
    rw [fl3_ivs]
/-- A mixture of two. -/
def mixQ (a p b q : Q) : Option Q := (timesQ a p).bind fun x => (timesQ b q).bind fun y => addQ x y
def mixI (s : Bool) (a p b q : Q) : Q × Bool :=
  let x := tmS s a p
  let y := tmS x.2 b q
  adS y.2 x.1 y.1
theorem mixI_spec (a p b q : Q) (s : Bool) : (mixI s a p b q).2 = (s || !(mixQ a p b q).isSome) ∧ ∀ v, mixQ a p b q = some v → (mixI s a p b q).1 = v := by
  unfold mixI mixQ tmS adS
  cases h0 : timesQ a p with
  | none => simp
  | some x =>
    cases h1 : timesQ b q with
    | none => simp
    | some y =>
      cases h2 : addQ x y with
      | none => simp [h2]
      | some v => simp [h2]
def copyV (ins : List Value) : Nat → Nat → List Value
  | _, 0 => []
  | k, n + 1 => .int .i64 (i0 ins k) :: copyV ins (k + 1) n
/-- All of a table's numbers are valid and real. -/
def tabQ (f : Nat → Q) : Bool := allB (fun k => realQ (f k)) 0 16
/-- What is got: the numbers, or as many noughts. -/
def gotV (bad : Bool) (ins : List Value) : Nat → Nat → List Value
  | _, 0 => []
  | k, n + 1 => .int .i64 (if bad then 0 else i0 ins k) :: gotV bad ins (k + 1) n
/-- All of four numbers are valid and real. -/
def stQ (f : Nat → Q) : Bool := allB (fun k => realQ (f k)) 0 4
end Go.Sx

/- Trees that ask nothing of the callees named; conditions in a row. -/
namespace Go.Sx
open Go

def mEvn (m : List Bool) : Evn → Bool
  | .need nd => nd.all fun x => match x with
    | .bool true => true
    | _ => false
  | .call k _ _ _ => m.getD k false
  | .prim _ _ => false
def mEvs (m : List Bool) : List Evn → Bool
  | [] => true
  | e :: r => mEvn m e && mEvs m r
def mTr (m : List Bool) : Tr → Bool
  | .evs l t => mEvs m l && mTr m t
  | .ite _ a b => mTr m a && mTr m b
  | .ret _ => true
  | _ => false
/-- The callees named by the list ask nothing. -/
def Free (Fs : List Fun1) (m : List Bool) : Prop := ∀ k, m.getD k false = true → ∀ ins, preF Fs k ins ∧ hasF Fs k
theorem Free.nil {Fs : List Fun1} : Free Fs [] := fun k h => by simp at h
theorem Free.yes {F : Fun1} {Fs : List Fun1} {m : List Bool} (hF : ∀ ins, F.pre ins) (h : Free Fs m) : Free (F :: Fs) (true :: m)
  | 0, _, ins => ⟨hF ins, trivial⟩
  | k + 1, hk, ins => h k (by simpa using hk) ins
theorem Free.no {F : Fun1} {Fs : List Fun1} {m : List Bool} (h : Free Fs m) : Free (F :: Fs) (false :: m)
  | 0, hk, _ => by simp at hk
  | k + 1, hk, ins => h k (by simpa using hk) ins
theorem okE_mask {Fs : List Fun1} {m : List Bool} (hF : Free Fs m) : ∀ (l : List Evn) (env : List Value), mEvs m l = true → okE Fs l env
  | [], _, _ => trivial
  | .need nd :: r, env, h => by
    simp only [mEvs, mEvn, Bool.and_eq_true] at h
    exact ⟨needs_free h.1, okE_mask hF r env h.2⟩
  | .call k ins none n :: r, env, h => by
    simp only [mEvs, mEvn, Bool.and_eq_true] at h
    exact ⟨(hF k h.1 _).1, okE_mask hF r _ h.2⟩
  | .call k ins (some g) n :: r, env, h => by
    simp only [mEvs, mEvn, Bool.and_eq_true] at h
    have h1 := hF k h.1 (evsIn env ins)
    exact ⟨h1.2, fun _ => h1.1, okE_mask hF r _ h.2⟩
  | .prim _ _ :: r, env, h => by simp [mEvs, mEvn] at h
theorem okT_mask {Fs : List Fun1} {m : List Bool} (hF : Free Fs m) : ∀ (t : Tr) (env : List Value), mTr m t = true → okT Fs t env
  | .evs l t, env, h => by
    simp only [mTr, Bool.and_eq_true] at h
    exact ⟨okE_mask hF l env h.1, okT_mask hF t _ h.2⟩
  | .ite c a b, env, h => by
    simp only [mTr, Bool.and_eq_true] at h
    simp only [okT]
    split
    · exact okT_mask hF a env h.1
    · exact okT_mask hF b env h.2
  | .ret _, _, _ => trivial
  | .fail _, _, h => by cases h
  | .lp _ _ _ _, _, h => by cases h
  | .next _ _, _, h => by cases h

theorem okT_ite {Fs : List Fun1} {c : Ex} {a b : Tr} {env : List Value} (h1 : toB (ev env c) = true → okT Fs a env) (h2 : toB (ev env c) = false → okT Fs b env) : okT Fs (.ite c a b) env := by
  simp only [okT]
  cases h : toB (ev env c) with
  | true => rw [if_pos rfl]; exact h1 h
  | false => rw [if_neg (by simp)]; exact h2 h

/-- One more condition, looked at only where none has failed. -/
def orG (c y : Bool) : Bool := toB (if c = true then Value.bool true else .bool (!toB (if (!c) = true then Value.bool y else undef)))
theorem orG_eq (c y : Bool) : orG c y = (c || !y) := by cases c <;> rfl
theorem wrap_small {z : Int} (h : -9223372036854775808 ≤ z ∧ z ≤ 9223372036854775807) : IntKind.i64.wrap z = z := wrap_in h
theorem inRg_iff {n lo hi : Int} : inRg n lo hi = true ↔ lo ≤ n ∧ n ≤ hi := by simp [inRg]
end Go.Sx


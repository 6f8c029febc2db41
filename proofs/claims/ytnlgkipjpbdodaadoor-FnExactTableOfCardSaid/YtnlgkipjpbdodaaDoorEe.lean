/- Lists, mixtures, laws. A part of the proof of FnExactTableOf; no conditions. -/
import Derived.Test.YtnlgkipjpbdodaaDoorEd
import Derived.OpenShut
import Derived.Deep.Strs
import Derived.Deep.DeepHandedRow
/- Lists of sums of products, of whatever length; mixtures. -/
namespace Go.Sx
open Go

def nttV (n : Nat) (ok : Bool) (d : Nat → Option Q) : List Value :=
  if ok && allB (fun i => (d i).isSome) 0 n then fl3 (listD d 0 n) ++ [.bool true] else zeros (3 * n) ++ [.bool false]
theorem nttI_eq {c : Nat → Bool → Q × Bool} {d : Nat → Option Q} (h : ∀ k s, (c k s).2 = (s || !(d k).isSome) ∧ ∀ v, d k = some v → (c k s).1 = v) (n : Nat) (ok : Bool) :
    gotL (cellsI c 0 n (!ok)).2 (cellsI c 0 n (!ok)).1 ++ [.bool (!(cellsI c 0 n (!ok)).2)] = nttV n ok d := by
  obtain ⟨h1, h2, h3⟩ := cellsI_spec h n 0 (!ok)
  unfold nttV
  cases hc : (ok && allB (fun i => (d i).isSome) 0 n) with
  | true =>
    simp only [Bool.and_eq_true] at hc
    rw [h2, h3 hc.2, hc.1, hc.2]
    simp only [Bool.not_true, Bool.or_self, if_true, gotL_good, Bool.not_false]
  | false =>
    have : (cellsI c 0 n (!ok)).2 = true := by
      rw [h2]
      revert hc
      generalize allB (fun i => (d i).isSome) 0 n = x
      cases ok <;> cases x <;> simp
    rw [this, gotL_bad, h1]
    simp
def nfinS (n : Nat) (s : Bool) (l : List Q) : List Value := if toB (.bool (!s)) = true then zeros (3 * n) ++ [.bool false] else fl3 l ++ [.bool true]
def nnestS (m : Nat) (c : Nat → Bool → Q × Bool) : Nat → Nat → List Q → Bool → List Value
  | 0, _, acc, s => nfinS m s acc
  | n + 1, k, acc, s => if toB (.bool s) = true then nnestS m c n (k + 1) (acc ++ [(c k s).1]) (c k s).2 else nfinS m s (acc ++ padQ (n + 1))
theorem nnestS_spec {m : Nat} {c : Nat → Bool → Q × Bool} {d : Nat → Option Q} (h : ∀ k s, (c k s).2 = (s && (d k).isSome) ∧ ∀ v, d k = some v → (c k s).1 = v) : ∀ n k acc s,
    nnestS m c n k acc s = if s && allB (fun i => (d i).isSome) k n then fl3 (acc ++ listD d k n) ++ [.bool true] else zeros (3 * m) ++ [.bool false]
  | 0, k, acc, s => by
    simp only [nnestS, nfinS, allB, Bool.and_true, listD, List.append_nil]
    cases s <;> simp
  | n + 1, k, acc, s => by
    obtain ⟨h1, h2⟩ := h k s
    simp only [nnestS, nnestS_spec h n (k + 1), allB, h1]
    cases s with
    | false => simp [nfinS]
    | true =>
      simp only [listD]
      by_cases hd : (d k).isSome = true
      · obtain ⟨v, hv⟩ := Option.isSome_iff_exists.1 hd
        simp [hv, h2 v hv]
      · simp [hd]
theorem nttS_eq {c : Nat → Bool → Q × Bool} {d : Nat → Option Q} (h : ∀ k s, (c k s).2 = (s && (d k).isSome) ∧ ∀ v, d k = some v → (c k s).1 = v) (n : Nat) (ok : Bool) : nnestS n c n 0 [] ok = nttV n ok d := by
  rw [nnestS_spec h]
  rfl
/-- The reference's way that stops at the first that fails. -/
def nestM (m : Nat) (d : Nat → Option Q) : Nat → Nat → List Q → List Value
  | 0, _, acc => fl3 acc ++ [.bool true]
  | n + 1, k, acc => if toB (.bool (!(d k).isSome)) = true then zeros (3 * m) ++ [.bool false] else nestM m d n (k + 1) (acc ++ [(d k).getD zq])
theorem nestM_spec {m : Nat} {d : Nat → Option Q} : ∀ n k acc, nestM m d n k acc = if allB (fun i => (d i).isSome) k n then fl3 (acc ++ listD d k n) ++ [.bool true] else zeros (3 * m) ++ [.bool false]
  | 0, k, acc => by simp [nestM, allB, listD]
  | n + 1, k, acc => by
    simp only [nestM, nestM_spec n (k + 1), allB, toB_bool, listD]
    by_cases hd : (d k).isSome = true <;> simp [hd]
theorem nestM_eq {d : Nat → Option Q} (n : Nat) : nestM n d n 0 [] = nttV n true d := by
  rw [nestM_spec]
  rfl
def nttT (n : Nat) (ok : Bool) (d : Nat → Option Q) : Bool := ok && allB (fun i => (d i).isSome) 0 n
def nttH (n : Nat) (ok : Bool) (d : Nat → Option Q) : Nat → Int := fun i => if nttT n ok d = true then cmpQ ((d (i / 3)).getD zq) (i % 3) else 0
/-- A list of that many fractions, or noughts. -/
def nttW (n : Nat) (ok : Bool) (d : Nat → Option Q) : List Value := ivs (nttH n ok d) 0 (3 * n) ++ [.bool (nttT n ok d)]
theorem fl3_ivs (d : Nat → Option Q) : ∀ n k, fl3 (listD d k n) = ivs (fun i => cmpQ ((d (i / 3)).getD zq) (i % 3)) (3 * k) (3 * n)
  | 0, k => rfl
  | n + 1, k => by
    have e : 3 * (n + 1) = 3 * n + 3 := by omega
    rw [e]
    simp only [listD, fl3, ivs]
    have e0 : (3 * k) / 3 = k ∧ (3 * k) % 3 = 0 := by omega
    have e1 : (3 * k + 1) / 3 = k ∧ (3 * k + 1) % 3 = 1 := by omega
    have e2 : (3 * k + 1 + 1) / 3 = k ∧ (3 * k + 1 + 1) % 3 = 2 := by omega
    rw [fl3_ivs d n (k + 1), e0.1, e0.2, e1.1, e1.2, e2.1, e2.2]
    rfl
theorem zeros_ivs : ∀ n k, zeros n = ivs (fun _ => 0) k n
  | 0, _ => rfl
  | n + 1, k => by rw [zeros, ivs, zeros_ivs n (k + 1)]
theorem nttV_eq (n : Nat) (ok : Bool) (d : Nat → Option Q) : nttV n ok d = nttW n ok d := by
  unfold nttV nttW
  have e : nttT n ok d = (ok && allB (fun i => (d i).isSome) 0 n) := rfl
  rw [← e]
  have h2 : nttH n ok d = fun i => if nttT n ok d = true then cmpQ ((d (i / 3)).getD zq) (i % 3) else 0 := rfl
  rw [h2]
  generalize nttT n ok d = t
  cases t
  · simp only [Bool.false_eq_true, if_false]
    rw [zeros_ivs (3 * n) 0]
  · simp only [if_true]
    rw [fl3_ivs]
/-- A mixture of two. -/
def mixQ (a p b q : Q) : Option Q := (timesQ a p).bind fun x => (timesQ b q).bind fun y => addQ x y
def mixI (s : Bool) (a p b q : Q) : Q × Bool :=
  let x := tmS s a p
  let y := tmS x.2 b q
  adS y.2 x.1 y.1
theorem mixI_spec (a p b q : Q) (s : Bool) : (mixI s a p b q).2 = (s || !(mixQ a p b q).isSome) ∧ ∀ v, mixQ a p b q = some v → (mixI s a p b q).1 = v := by
  unfold mixI mixQ tmS adS
  cases h0 : timesQ a p with
  | none => simp
  | some x =>
    cases h1 : timesQ b q with
    | none => simp
    | some y =>
      cases h2 : addQ x y with
      | none => simp [h2]
      | some v => simp [h2]
def copyV (ins : List Value) : Nat → Nat → List Value
  | _, 0 => []
  | k, n + 1 => .int .i64 (i0 ins k) :: copyV ins (k + 1) n
/-- All of a table's numbers are valid and real. -/
def tabQ (f : Nat → Q) : Bool := allB (fun k => realQ (f k)) 0 16
/-- What is got: the numbers, or as many noughts. -/
def gotV (bad : Bool) (ins : List Value) : Nat → Nat → List Value
  | _, 0 => []
  | k, n + 1 => .int .i64 (if bad then 0 else i0 ins k) :: gotV bad ins (k + 1) n
/-- All of four numbers are valid and real. -/
def stQ (f : Nat → Q) : Bool := allB (fun k => realQ (f k)) 0 4
end Go.Sx

/- Trees that ask nothing of the callees named; conditions in a row. -/
namespace Go.Sx
open Go

def mEvn (m : List Bool) : Evn → Bool
  | .need nd => nd.all fun x => match x with
    | .bool true => true
    | _ => false
  | .call k _ _ _ => m.getD k false
  | .prim _ _ => false
def mEvs (m : List Bool) : List Evn → Bool
  | [] => true
  | e :: r => mEvn m e && mEvs m r
def mTr (m : List Bool) : Tr → Bool
  | .evs l t => mEvs m l && mTr m t
  | .ite _ a b => mTr m a && mTr m b
  | .ret _ => true
  | _ => false
/-- The callees named by the list ask nothing. -/
def Free (Fs : List Fun1) (m : List Bool) : Prop := ∀ k, m.getD k false = true → ∀ ins, preF Fs k ins ∧ hasF Fs k
theorem Free.nil {Fs : List Fun1} : Free Fs [] := fun k h => by simp at h
theorem Free.yes {F : Fun1} {Fs : List Fun1} {m : List Bool} (hF : ∀ ins, F.pre ins) (h : Free Fs m) : Free (F :: Fs) (true :: m)
  | 0, _, ins => ⟨hF ins, trivial⟩
  | k + 1, hk, ins => h k (by simpa using hk) ins
theorem Free.no {F : Fun1} {Fs : List Fun1} {m : List Bool} (h : Free Fs m) : Free (F :: Fs) (false :: m)
  | 0, hk, _ => by simp at hk
  | k + 1, hk, ins => h k (by simpa using hk) ins
theorem okE_mask {Fs : List Fun1} {m : List Bool} (hF : Free Fs m) : ∀ (l : List Evn) (env : List Value), mEvs m l = true → okE Fs l env
  | [], _, _ => trivial
  | .need nd :: r, env, h => by
    simp only [mEvs, mEvn, Bool.and_eq_true] at h
    exact ⟨needs_free h.1, okE_mask hF r env h.2⟩
  | .call k ins none n :: r, env, h => by
    simp only [mEvs, mEvn, Bool.and_eq_true] at h
    exact ⟨(hF k h.1 _).1, okE_mask hF r _ h.2⟩
  | .call k ins (some g) n :: r, env, h => by
    simp only [mEvs, mEvn, Bool.and_eq_true] at h
    have h1 := hF k h.1 (evsIn env ins)
    exact ⟨h1.2, fun _ => h1.1, okE_mask hF r _ h.2⟩
  | .prim _ _ :: r, env, h => by simp [mEvs, mEvn] at h
theorem okT_mask {Fs : List Fun1} {m : List Bool} (hF : Free Fs m) : ∀ (t : Tr) (env : List Value), mTr m t = true → okT Fs t env
  | .evs l t, env, h => by
    simp only [mTr, Bool.and_eq_true] at h
    exact ⟨okE_mask hF l env h.1, okT_mask hF t _ h.2⟩
  | .ite c a b, env, h => by
    simp only [mTr, Bool.and_eq_true] at h
    simp only [okT]
    split
    · exact okT_mask hF a env h.1
    · exact okT_mask hF b env h.2
  | .ret _, _, _ => trivial
  | .fail _, _, h => by cases h
  | .lp _ _ _ _, _, h => by cases h
  | .next _ _, _, h => by cases h

theorem okT_ite {Fs : List Fun1} {c : Ex} {a b : Tr} {env : List Value} (h1 : toB (ev env c) = true → okT Fs a env) (h2 : toB (ev env c) = false → okT Fs b env) : okT Fs (.ite c a b) env := by
  simp only [okT]
  cases h : toB (ev env c) with
  | true => rw [if_pos rfl]; exact h1 h
  | false => rw [if_neg (by simp)]; exact h2 h

/-- One more condition, looked at only where none has failed. -/
def orG (c y : Bool) : Bool := toB (if c = true then Value.bool true else .bool (!toB (if (!c) = true then Value.bool y else undef)))
theorem orG_eq (c y : Bool) : orG c y = (c || !y) := by cases c <;> rfl
theorem wrap_small {z : Int} (h : -9223372036854775808 ≤ z ∧ z ≤ 9223372036854775807) : IntKind.i64.wrap z = z := wrap_in h
theorem inRg_iff {n lo hi : Int} : inRg n lo hi = true ↔ lo ≤ n ∧ n ≤ hi := by simp [inRg]
end Go.Sx

/- Laws over package variables: what the row's list gives, and what it asks behind the call. -/
namespace Go.Sx
open Go Go.ChangeShapes Go.RowKit

theorem law_calls' {P : Program} {glb : List (Nat × List Sc)} {f : Nat} {sig : Sig} {F : Fun1} (hc : ConOK P glb f sig F.spec) (h1 : sig.pre = []) (h2 : sig.gin = []) (h3 : sig.res = .c (.s (.e (.var 0)))) {ins : List Value} (hty : TypedL sig.tin ins) (hp : F.pre ins) (ho : F.out ins = [.bool true]) (W : World) (hg : GlbOk glb W) (hs : ∀ g l, find glb g = some l → g < W.heap.size) :
    Calls P f (sig.args.map (CV.val (at0 []) ins)).toArray W fun e w' => e = .returned (.bool true) ∧ RowKit.Below W.heap.size W w' := by
  have g : Given glb sig [] ins W :=
    { glob := hg
      globbs := fun g l h => ⟨hs g l h, by simp⟩
      len := by rw [h1]; rfl
      nodup := List.nodup_nil
      typed := hty
      blk := fun k b h => by rw [h1] at h; simp at h
      rows := fun x c n h => by rw [h2] at h; cases h }
  refine (hc W [] ins (fun outs => outs = [.bool true]) g ⟨hp, ho⟩).mono ?_
  rintro e w' ⟨outs, bs', v, rfl, L⟩
  have hr := L.res
  rw [h3, L.post] at hr
  refine ⟨by rw [show v = .bool true from hr], ⟨L.os, L.tape, L.output, L.size, fun k hk => L.frame k hk (by simp)⟩⟩

section
variable {H : Type} {enc : TypeId × Value → H} {P : Program}
/-- A struct of three numbers that reads so holds them. -/
theorem three_cells {w : World} {base : Nat} {spare : Nat → Bool} {held : Bool} {t : TypeId} {f0 f1 f2 : Field} {fuel : Nat} {cs : List Value} {a b c : Int} {p : List MemPlace} (ht : P.underlying t = some (.struct #[f0, f1, f2]))
    (e0 : P.underlying f0.type = some (.int .i64)) (e1 : P.underlying f1.type = some (.int .i64)) (e2 : P.underlying f2.type = some (.int .i64)) (o0 : f0.offset = 0) (o1 : f1.offset = 1) (o2 : f2.offset = 2)
    (c0 : P.cellsOf f0.type = 1) (c1 : P.cellsOf f1.type = 1) (c2 : P.cellsOf f2.type = 1) (ct : P.cellsOf t = 3)
    (h : DataW.trod enc P w base spare held fuel t cs = some (.agg [.lit (.int .i64 a), .lit (.int .i64 b), .lit (.int .i64 c)], p)) : cs = [.int .i64 a, .int .i64 b, .int .i64 c] := by
  obtain ⟨y0, y1, y2, n, hx, hl, h0, h1, h2⟩ := Deep.trod_struct3 ht h
  rw [ct] at hl
  rw [o0, c0] at h0
  rw [o1, c1] at h1
  rw [o2, c2] at h2
  obtain ⟨n0, k0, r0, _⟩ := DataW.trod_int e0 h0
  obtain ⟨n1, k1, r1, _⟩ := DataW.trod_int e1 h1
  obtain ⟨n2, k2, r2, _⟩ := DataW.trod_int e2 h2
  subst r0 r1 r2
  simp only [Prod.mk.injEq, DataW.agg.injEq, List.cons.injEq, DataW.lit.injEq, Lit.int.injEq, true_and, and_true] at hx
  obtain ⟨⟨rfl, rfl, rfl⟩, _⟩ := hx
  match cs, hl with
  | [x, y, z], _ =>
    simp at k0 k1 k2
    rw [k0, k1, k2]

theorem trodVars_below (hl : laidOutB P = true) {W W' : World} (hb : Below W.heap.size W W') : ∀ {ns : List String} {gs : List (DataW H)} {ps : List MemPlace},
    DataW.TrodVars enc P W (fun _ => true) ns gs ps → (∀ n ∈ ns, ∀ g t, P.globalNamed n = some g → (P.globals[g]?).map (·.type) = some t → P.readableRec t = true ∧ t < P.types.size) → DataW.TrodVars enc P W' (fun b => decide (b < W.heap.size)) ns gs ps
  | [], [], _, h, _ => h
  | [], _ :: _, _, h, _ => h.elim
  | _ :: _, [], _, h, _ => h.elim
  | n :: ns, d :: gs, ps, h, hr => by
    obtain ⟨g, t, cs, fuel, p, q, h1, h2, h3, h4, hs, e⟩ := h
    obtain ⟨r1, r2⟩ := hr n List.mem_cons_self g t h1 h2
    have hg : g < W.heap.size := by
      simp only [World.var?, h1, Option.bind_some] at h3
      split at h3
      · rename_i c tt fr hh; exact (Array.getElem?_eq_some_iff.1 hh).1
      · cases h3
    have h3' : W'.var? P n = some cs := by
      simp only [World.var?, h1, Option.bind_some] at h3 ⊢
      rw [hb.block g hg]
      exact h3
    have hT : DataW.Trod enc P W 0 (fun _ => true) true t (.agg cs) d p := ⟨fuel, h4⟩
    obtain ⟨fuel', h4'⟩ := Below.trod hl r1 r2 hT hb (DataW.trod_lt _ _ _ _ h4)
    exact ⟨g, t, cs, fuel', p, q, h1, h2, h3', h4', trodVars_below hl hb hs (fun n hn => hr n (List.mem_cons_of_mem _ hn)), e⟩
theorem var_lt {W : World} {n : String} {g : Nat} {cs : Array Value} (h1 : P.globalNamed n = some g) (h3 : W.var? P n = some cs) : g < W.heap.size := by
  simp only [World.var?, h1, Option.bind_some] at h3
  split at h3
  · rename_i c tt fr hh; exact (Array.getElem?_eq_some_iff.1 hh).1
  · cases h3
/-- The cells of a variable that is laid so. -/
theorem laid_three {W : World} {name : String} {g : Nat} {t : TypeId} {f0 f1 f2 : Field} {a b c : Int} {rest : List (String × DataW Unit)} {ps : List MemPlace}
    (h : DataW.LaidVars P W ((name, .agg [.lit (.int .i64 a), .lit (.int .i64 b), .lit (.int .i64 c)]) :: rest) ps)
    (hg : P.globalNamed name = some g) (hty : (P.globals[g]?).map (·.type) = some t) (ht : P.underlying t = some (.struct #[f0, f1, f2]))
    (e0 : P.underlying f0.type = some (.int .i64)) (e1 : P.underlying f1.type = some (.int .i64)) (e2 : P.underlying f2.type = some (.int .i64)) (o0 : f0.offset = 0) (o1 : f1.offset = 1) (o2 : f2.offset = 2)
    (c0 : P.cellsOf f0.type = 1) (c1 : P.cellsOf f1.type = 1) (c2 : P.cellsOf f2.type = 1) (ct : P.cellsOf t = 3) :
    g < W.heap.size ∧ (∀ i v, ([Value.int .i64 a, .int .i64 b, .int .i64 c] : List Value)[i]? = some v → W.cell? ⟨g, i, none⟩ = some v) ∧ ∃ q, DataW.LaidVars P W rest q := by
  obtain ⟨g', t', cs, fuel, p, q, hg', hty', hv, hd, hr, _⟩ := h
  obtain rfl := Option.some.inj (hg.symm.trans hg')
  obtain rfl := Option.some.inj (hty.symm.trans hty')
  have hcs := three_cells ht e0 e1 e2 o0 o1 o2 c0 c1 c2 ct hd
  refine ⟨var_lt hg hv, fun i v hi => ?_, q, hr⟩
  rw [World.var?_cell hg hv i, ← hi, ← hcs]
  simp
theorem glbOk_nil {W : World} : GlbOk [] W := fun g l h => by cases h
theorem glbOk_three {W : World} {g : Nat} {a b c : Int} {r : List (Nat × List Sc)} (h : ∀ i v, ([Value.int .i64 a, .int .i64 b, .int .i64 c] : List Value)[i]? = some v → W.cell? ⟨g, i, none⟩ = some v) (hr : GlbOk r W) :
    GlbOk ((g, [.e (.int .i64 a), .e (.int .i64 b), .e (.int .i64 c)]) :: r) W := by
  intro g' l hl j s hs ρ env
  simp only [find] at hl
  split at hl
  · rename_i he
    have he := Nat.eq_of_beq_eq_true he
    cases hl
    rw [show g' = g by omega]
    match j, hs with
    | 0, hs => simp at hs; subst hs; exact h 0 _ rfl
    | 1, hs => simp at hs; subst hs; exact h 1 _ rfl
    | 2, hs => simp at hs; subst hs; exact h 2 _ rfl
    | j + 3, hs => simp at hs
  · exact hr g' l hl j s hs ρ env
theorem globs_nil {W : World} : ∀ g l, find ([] : List (Nat × List Sc)) g = some l → g < W.heap.size := fun g l h => by cases h
theorem globs_cons {W : World} {g : Nat} {x : List Sc} {r : List (Nat × List Sc)} (h : g < W.heap.size) (hr : ∀ g l, find r g = some l → g < W.heap.size) : ∀ g' l, find ((g, x) :: r) g' = some l → g' < W.heap.size := by
  intro g' l hl
  simp only [find] at hl
  split at hl
  · rename_i he
    have he := Nat.eq_of_beq_eq_true he
    omega
  · exact hr g' l hl
end
theorem int_wf {n : Int} (h : (Lit.int .i64 n).wf = true) : I64 n := by
  have h2 : decide (IntKind.min .i64 ≤ n) && decide (n ≤ IntKind.max .i64) = true := by
    simpa [Lit.wf, IntKind.has] using h
  have e1 : IntKind.min .i64 = -9223372036854775808 := rfl
  have e2 : IntKind.max .i64 = 9223372036854775807 := rfl
  rw [e1, e2] at h2
  simpa [I64] using h2
end Go.Sx

/- Tables of matrices: the numbers of both ways are the same. -/
namespace Go.Sx
open Go

def mirQ (v : Q) : Option Q := if validQ v then some (v.1, -v.2.1, v.2.2) else none
def pairQ (u v : Q) : Option Q := timesQ u ((mirQ v).getD zq)
def powQ (a : Q) : Option Q := if validQ a then lowI (a.1 * a.1 + a.2.1 * a.2.1) 0 (a.2.2 * a.2.2) else none
def halfQ (a : Q) : Option Q := timesQ a (1, 0, 2)
def reQ (a : Q) : Option Q := if validQ a then lowI a.1 0 a.2.2 else none
def imQ (a : Q) : Option Q := if validQ a then lowI a.2.1 0 a.2.2 else none
def partP (v : Q) : Option Q := makeI v.1 0 (IntKind.i64.wrap (mxI false 1 v.2.2 * 2))
def partR (v : Q) : Option Q := makeI v.1 0 (IntKind.i64.wrap (mxI false 1 v.2.2 * 1))
def partI (v : Q) : Option Q := makeI v.2.1 0 (IntKind.i64.wrap (mxI false 1 v.2.2 * 1))

theorem zq_valid : validQ zq = false := by decide
theorem times_zq (x : Q) : timesQ zq x = none := by simp [timesQ, zq_valid]
theorem times_zq' (x : Q) : timesQ x zq = none := by simp [timesQ, zq_valid]
theorem mir_valid {v : Q} (h : validQ v = true) : validQ (v.1, -v.2.1, v.2.2) = true := by
  obtain ⟨b1, b2, b3⟩ := valid_bounds h
  simp only [validQ, validI, Bool.and_eq_true, beq_iff_eq] at h ⊢
  refine ⟨h.1, ?_, h.2.2.1, ?_⟩
  · simp only [inR, Bool.and_eq_true, decide_eq_true_eq]; omega
  · have := h.2.2.2
    unfold gcd3 at this ⊢
    rw [Int.natAbs_neg]
    exact this
theorem pair_self (a : Q) : pairQ a a = powQ a := by
  unfold pairQ powQ mirQ
  cases h : validQ a with
  | false => simp [times_zq']
  | true =>
    simp only [if_true, Option.getD_some, timesQ, h, mir_valid h, Bool.and_self]
    have e1 : a.1 * a.1 - a.2.1 * -a.2.1 = a.1 * a.1 + a.2.1 * a.2.1 := by rw [Int.mul_neg]; omega
    have e2 : a.1 * -a.2.1 + a.2.1 * a.1 = 0 := by rw [Int.mul_neg, Int.mul_comm a.2.1 a.1]; omega
    rw [e1, e2]
theorem low_real {x z : Int} {v : Q} (h : lowI x 0 z = some v) : v.2.1 = 0 := by
  unfold lowI at h
  simp only at h
  split at h
  · cases h; simp
  · cases h
theorem pow_real {a v : Q} (h : powQ a = some v) : v.2.1 = 0 := by
  unfold powQ at h
  split at h
  · exact low_real h
  · cases h
/-- An operation that wants valid fractions and gives valid ones; real ones of real ones. -/
structure GoodOp (o : Q → Q → Option Q) : Prop where
  left : ∀ y, o zq y = none
  right : ∀ x, o x zq = none
  valid : ∀ {x y v}, o x y = some v → validQ v = true
  real : ∀ {x y v : Q}, x.2.1 = 0 → y.2.1 = 0 → o x y = some v → v.2.1 = 0
theorem goodAdd : GoodOp addQ where
  left y := by simp [addQ, zq_valid]
  right x := by simp [addQ, zq_valid]
  valid := add_valid
  real := by
    intro x y v hx hy h
    unfold addQ at h
    split at h
    · rw [hx, hy, Int.zero_mul, Int.zero_mul] at h; exact low_real h
    · cases h
theorem goodLess : GoodOp lessQ where
  left y := by simp [lessQ, zq_valid]
  right x := by simp [lessQ, zq_valid]
  valid := less_valid
  real := by
    intro x y v hx hy h
    unfold lessQ at h
    split at h
    · rw [hx, hy, Int.zero_mul, Int.zero_mul] at h; exact low_real h
    · cases h
theorem part_half {v : Q} (h : validQ v = true) (hr : v.2.1 = 0) : partP v = halfQ v := by
  obtain ⟨b1, b2, b3⟩ := valid_bounds h
  have hm : mxI false 1 v.2.2 = v.2.2 := by unfold mxI; simp only; split <;> omega
  have hw : IntKind.i64.wrap (v.2.2 * 2) = v.2.2 * 2 := wrap_in (by omega)
  have h2 : validQ (1, 0, 2) = true := by decide
  unfold partP halfQ timesQ makeI
  rw [hm, hw, h, h2, if_pos, Bool.and_self, if_pos rfl]
  · simp only [hr, Int.mul_one, Int.mul_zero, Int.zero_mul, Int.sub_zero, Int.add_zero]
  · simp only [Bool.and_eq_true, inRg_iff, most]; omega
theorem part_re {v : Q} (h : validQ v = true) : partR v = reQ v := by
  obtain ⟨b1, b2, b3⟩ := valid_bounds h
  have hm : mxI false 1 v.2.2 = v.2.2 := by unfold mxI; simp only; split <;> omega
  have hw : IntKind.i64.wrap (v.2.2 * 1) = v.2.2 := by rw [Int.mul_one]; exact wrap_in (by omega)
  unfold partR reQ makeI
  rw [hm, hw, h, if_pos, if_pos rfl]
  simp only [Bool.and_eq_true, inRg_iff, most]; omega
theorem part_im {v : Q} (h : validQ v = true) : partI v = imQ v := by
  obtain ⟨b1, b2, b3⟩ := valid_bounds h
  have hm : mxI false 1 v.2.2 = v.2.2 := by unfold mxI; simp only; split <;> omega
  have hw : IntKind.i64.wrap (v.2.2 * 1) = v.2.2 := by rw [Int.mul_one]; exact wrap_in (by omega)
  unfold partI imQ makeI
  rw [hm, hw, h, if_pos, if_pos rfl]
  simp only [Bool.and_eq_true, inRg_iff, most]; omega

/-! the program's way: a flag that tells of what failed -/
def opS (f : Q → Q → Option Q) (s : Bool) (x y : Q) : Q × Bool := ((f x y).getD zq, s || !(f x y).isSome)
def op1 (f : Q → Option Q) (s : Bool) (x : Q) : Q × Bool := ((f x).getD zq, s || !(f x).isSome)
def cellP (o1 o2 o3 : Q → Q → Option Q) (a b c d : Q) (s : Bool) : Q × Bool :=
  let r1 := opS o1 s a b
  let r2 := opS o2 r1.2 r1.1 c
  let r3 := opS o3 r2.2 r2.1 d
  op1 halfQ r3.2 r3.1
def dP (o1 o2 o3 : Q → Q → Option Q) (a b c d : Q) : Option Q := (o1 a b).bind fun r1 => (o2 r1 c).bind fun r2 => (o3 r2 d).bind halfQ
theorem cellP_spec (o1 o2 o3 : Q → Q → Option Q) (a b c d : Q) (s : Bool) : (cellP o1 o2 o3 a b c d s).2 = (s || !(dP o1 o2 o3 a b c d).isSome) ∧ ∀ v, dP o1 o2 o3 a b c d = some v → (cellP o1 o2 o3 a b c d s).1 = v := by
  unfold cellP dP opS op1
  cases h1 : o1 a b with
  | none => simp
  | some r1 =>
    cases h2 : o2 r1 c with
    | none => simp [h2]
    | some r2 =>
      cases h3 : o3 r2 d with
      | none => simp [h2, h3]
      | some r3 =>
        cases h4 : halfQ r3 with
        | none => simp [h2, h3, h4]
        | some v => simp [h2, h3, h4]
def cellT (o : Q → Q → Option Q) (part : Q → Option Q) (u v x y : Q) (s : Bool) : Q × Bool :=
  let p := opS pairQ s u v
  let q := opS pairQ p.2 x y
  let r := opS o q.2 p.1 q.1
  op1 part r.2 r.1
def dT (o : Q → Q → Option Q) (part : Q → Option Q) (u v x y : Q) : Option Q := (pairQ u v).bind fun p => (pairQ x y).bind fun q => (o p q).bind part
theorem cellT_spec (o : Q → Q → Option Q) (part : Q → Option Q) (u v x y : Q) (s : Bool) : (cellT o part u v x y s).2 = (s || !(dT o part u v x y).isSome) ∧ ∀ w, dT o part u v x y = some w → (cellT o part u v x y s).1 = w := by
  unfold cellT dT opS op1
  cases h1 : pairQ u v with
  | none => simp
  | some r1 =>
    cases h2 : pairQ x y with
    | none => simp
    | some r2 =>
      cases h3 : o r1 r2 with
      | none => simp [h3]
      | some r3 =>
        cases h4 : part r3 with
        | none => simp [h3, h4]
        | some v => simp [h3, h4]

/-! the reference's way: a flag that tells that all went well -/
def opA (f : Q → Q → Option Q) (s : Bool) (x y : Q) : Q × Bool := ((f x y).getD zq, s && (f x y).isSome)
def op1A (f : Q → Option Q) (s : Bool) (x : Q) : Q × Bool := ((f x).getD zq, s && (f x).isSome)
def cellPA (o1 o2 o3 : Q → Q → Option Q) (a b c d : Q) (s : Bool) : Q × Bool :=
  let p0 := opA pairQ s a a
  let p1 := opA pairQ p0.2 b b
  let r1 := opA o1 p1.2 p0.1 p1.1
  let p2 := opA pairQ r1.2 c c
  let r2 := opA o2 p2.2 r1.1 p2.1
  let p3 := opA pairQ r2.2 d d
  let r3 := opA o3 p3.2 r2.1 p3.1
  op1A partP r3.2 r3.1
def dPA (o1 o2 o3 : Q → Q → Option Q) (a b c d : Q) : Option Q :=
  (pairQ a a).bind fun p0 => (pairQ b b).bind fun p1 => (o1 p0 p1).bind fun r1 => (pairQ c c).bind fun p2 => (o2 r1 p2).bind fun r2 => (pairQ d d).bind fun p3 => (o3 r2 p3).bind partP
theorem cellPA_spec (o1 o2 o3 : Q → Q → Option Q) (a b c d : Q) (s : Bool) : (cellPA o1 o2 o3 a b c d s).2 = (s && (dPA o1 o2 o3 a b c d).isSome) ∧ ∀ v, dPA o1 o2 o3 a b c d = some v → (cellPA o1 o2 o3 a b c d s).1 = v := by
  unfold cellPA dPA opA op1A
  cases h1 : pairQ a a with
  | none => simp
  | some p0 =>
    cases h2 : pairQ b b with
    | none => simp
    | some p1 =>
      cases h3 : o1 p0 p1 with
      | none => simp [h3]
      | some r1 =>
        cases h4 : pairQ c c with
        | none => simp [h3]
        | some p2 =>
          cases h5 : o2 r1 p2 with
          | none => simp [h3, h5]
          | some r2 =>
            cases h6 : pairQ d d with
            | none => simp [h3, h5]
            | some p3 =>
              cases h7 : o3 r2 p3 with
              | none => simp [h3, h5, h7]
              | some r3 =>
                cases h8 : partP r3 with
                | none => simp [h3, h5, h7, h8]
                | some v => simp [h3, h5, h7, h8]
def cellTA (o : Q → Q → Option Q) (part : Q → Option Q) (u v x y : Q) (s : Bool) : Q × Bool :=
  let p := opA pairQ s u v
  let q := opA pairQ p.2 x y
  let r := opA o q.2 p.1 q.1
  op1A part r.2 r.1
theorem cellTA_spec (o : Q → Q → Option Q) (part : Q → Option Q) (u v x y : Q) (s : Bool) : (cellTA o part u v x y s).2 = (s && (dT o part u v x y).isSome) ∧ ∀ w, dT o part u v x y = some w → (cellTA o part u v x y s).1 = w := by
  unfold cellTA dT opA op1A
  cases h1 : pairQ u v with
  | none => simp
  | some r1 =>
    cases h2 : pairQ x y with
    | none => simp
    | some r2 =>
      cases h3 : o r1 r2 with
      | none => simp [h3]
      | some r3 =>
        cases h4 : part r3 with
        | none => simp [h3, h4]
        | some v => simp [h3, h4]
theorem cellsA_spec {c : Nat → Bool → Q × Bool} {d : Nat → Option Q} (h : ∀ k s, (c k s).2 = (s && (d k).isSome) ∧ ∀ v, d k = some v → (c k s).1 = v) : ∀ n k s,
    (cellsI c k n s).2 = (s && allB (fun i => (d i).isSome) k n) ∧ (allB (fun i => (d i).isSome) k n = true → (cellsI c k n s).1 = listD d k n)
  | 0, k, s => ⟨by simp [cellsI, allB], fun _ => rfl⟩
  | n + 1, k, s => by
    obtain ⟨i2, i3⟩ := cellsA_spec h n (k + 1) (c k s).2
    obtain ⟨h1, h2⟩ := h k s
    refine ⟨?_, fun ha => ?_⟩
    · show (cellsI c (k + 1) n (c k s).2).2 = _
      rw [i2]
      simp only [allB, h1, Bool.and_assoc]
    · simp only [allB, Bool.and_eq_true] at ha
      obtain ⟨v, hv⟩ := Option.isSome_iff_exists.1 ha.1
      simp only [cellsI, listD, i3 ha.2, h2 v hv, hv, Option.getD_some]
theorem nfinA_eq {c : Nat → Bool → Q × Bool} {d : Nat → Option Q} (h : ∀ k s, (c k s).2 = (s && (d k).isSome) ∧ ∀ v, d k = some v → (c k s).1 = v) (n : Nat) (ok : Bool) :
    nfinS n (cellsI c 0 n ok).2 (cellsI c 0 n ok).1 = nttV n ok d := by
  obtain ⟨h1, h2⟩ := cellsA_spec h n 0 ok
  unfold nfinS nttV
  rw [h1, toB_bool]
  cases hc : (ok && allB (fun i => (d i).isSome) 0 n) with
  | true =>
    simp only [Bool.and_eq_true] at hc
    rw [h2 hc.2]
    simp
  | false => simp

theorem dPA_eq {o1 o2 o3 : Q → Q → Option Q} (g1 : GoodOp o1) (g2 : GoodOp o2) (g3 : GoodOp o3) (a b c d : Q) : dPA o1 o2 o3 a b c d = dP o1 o2 o3 ((powQ a).getD zq) ((powQ b).getD zq) ((powQ c).getD zq) ((powQ d).getD zq) := by
  unfold dPA dP
  simp only [pair_self]
  cases h1 : powQ a with
  | none => simp [g1.left]
  | some p0 =>
    cases h2 : powQ b with
    | none => simp [g1.right]
    | some p1 =>
      cases h3 : o1 p0 p1 with
      | none => simp [h3]
      | some r1 =>
        cases h4 : powQ c with
        | none => simp [h3, g2.right]
        | some p2 =>
          cases h5 : o2 r1 p2 with
          | none => simp [h3, h5]
          | some r2 =>
            cases h6 : powQ d with
            | none => simp [h3, h5, g3.right]
            | some p3 =>
              cases h7 : o3 r2 p3 with
              | none => simp [h3, h5, h7]
              | some r3 =>
                simp only [h3, h5, h7, Option.bind_some, Option.getD_some]
                exact part_half (g3.valid h7) (g3.real (g2.real (g1.real (pow_real h1) (pow_real h2) h3) (pow_real h4) h5) (pow_real h6) h7)
theorem dT_re {o : Q → Q → Option Q} (g : GoodOp o) (u v x y : Q) : dT o partR u v x y = dT o reQ u v x y := by
  unfold dT
  cases pairQ u v with
  | none => rfl
  | some p =>
    cases pairQ x y with
    | none => rfl
    | some q =>
      simp only [Option.bind_some]
      cases h : o p q with
      | none => rfl
      | some r => exact part_re (g.valid h)
theorem dT_im {o : Q → Q → Option Q} (g : GoodOp o) (u v x y : Q) : dT o partI u v x y = dT o imQ u v x y := by
  unfold dT
  cases pairQ u v with
  | none => rfl
  | some p =>
    cases pairQ x y with
    | none => rfl
    | some q =>
      simp only [Option.bind_some]
      cases h : o p q with
      | none => rfl
      | some r => exact part_im (g.valid h)

/-! the sixteen -/
def cTI (m : Nat → Q) (pa pb pc pd : Q) : Nat → Bool → Q × Bool
  | 0 => cellP addQ addQ addQ pa pb pc pd
  | 1 => cellP lessQ addQ lessQ pa pb pc pd
  | 2 => cellT addQ reQ (m 0) (m 1) (m 2) (m 3)
  | 3 => cellT addQ imQ (m 1) (m 0) (m 3) (m 2)
  | 4 => cellP addQ lessQ lessQ pa pb pc pd
  | 5 => cellP lessQ lessQ addQ pa pb pc pd
  | 6 => cellT lessQ reQ (m 0) (m 1) (m 2) (m 3)
  | 7 => cellT lessQ imQ (m 1) (m 0) (m 3) (m 2)
  | 8 => cellT addQ reQ (m 0) (m 2) (m 1) (m 3)
  | 9 => cellT lessQ reQ (m 0) (m 2) (m 1) (m 3)
  | 10 => cellT addQ reQ (m 0) (m 3) (m 1) (m 2)
  | 11 => cellT lessQ imQ (m 1) (m 2) (m 0) (m 3)
  | 12 => cellT addQ imQ (m 0) (m 2) (m 1) (m 3)
  | 13 => cellT lessQ imQ (m 0) (m 2) (m 1) (m 3)
  | 14 => cellT addQ imQ (m 0) (m 3) (m 1) (m 2)
  | _ => cellT lessQ reQ (m 0) (m 3) (m 1) (m 2)
def toD (m : Nat → Q) : Nat → Option Q
  | 0 => dP addQ addQ addQ ((powQ (m 0)).getD zq) ((powQ (m 1)).getD zq) ((powQ (m 2)).getD zq) ((powQ (m 3)).getD zq)
  | 1 => dP lessQ addQ lessQ ((powQ (m 0)).getD zq) ((powQ (m 1)).getD zq) ((powQ (m 2)).getD zq) ((powQ (m 3)).getD zq)
  | 2 => dT addQ reQ (m 0) (m 1) (m 2) (m 3)
  | 3 => dT addQ imQ (m 1) (m 0) (m 3) (m 2)
  | 4 => dP addQ lessQ lessQ ((powQ (m 0)).getD zq) ((powQ (m 1)).getD zq) ((powQ (m 2)).getD zq) ((powQ (m 3)).getD zq)
  | 5 => dP lessQ lessQ addQ ((powQ (m 0)).getD zq) ((powQ (m 1)).getD zq) ((powQ (m 2)).getD zq) ((powQ (m 3)).getD zq)
  | 6 => dT lessQ reQ (m 0) (m 1) (m 2) (m 3)
  | 7 => dT lessQ imQ (m 1) (m 0) (m 3) (m 2)
  | 8 => dT addQ reQ (m 0) (m 2) (m 1) (m 3)
  | 9 => dT lessQ reQ (m 0) (m 2) (m 1) (m 3)
  | 10 => dT addQ reQ (m 0) (m 3) (m 1) (m 2)
  | 11 => dT lessQ imQ (m 1) (m 2) (m 0) (m 3)
  | 12 => dT addQ imQ (m 0) (m 2) (m 1) (m 3)
  | 13 => dT lessQ imQ (m 0) (m 2) (m 1) (m 3)
  | 14 => dT addQ imQ (m 0) (m 3) (m 1) (m 2)
  | _ => dT lessQ reQ (m 0) (m 3) (m 1) (m 2)
theorem cTI_spec (m : Nat → Q) (k : Nat) (s : Bool) :
    (cTI m ((powQ (m 0)).getD zq) ((powQ (m 1)).getD zq) ((powQ (m 2)).getD zq) ((powQ (m 3)).getD zq) k s).2 = (s || !(toD m k).isSome) ∧
      ∀ v, toD m k = some v → (cTI m ((powQ (m 0)).getD zq) ((powQ (m 1)).getD zq) ((powQ (m 2)).getD zq) ((powQ (m 3)).getD zq) k s).1 = v := by
  match k with
  | 0 | 1 | 4 | 5 => exact cellP_spec _ _ _ _ _ _ _ s
  | 2 | 3 | 6 | 7 | 8 | 9 | 10 | 11 | 12 | 13 | 14 => exact cellT_spec _ _ _ _ _ _ s
  | n + 15 => exact cellT_spec _ _ _ _ _ _ s
def cTS (m : Nat → Q) : Nat → Bool → Q × Bool
  | 0 => cellPA addQ addQ addQ (m 0) (m 1) (m 2) (m 3)
  | 1 => cellPA lessQ addQ lessQ (m 0) (m 1) (m 2) (m 3)
  | 2 => cellTA addQ partR (m 0) (m 1) (m 2) (m 3)
  | 3 => cellTA addQ partI (m 1) (m 0) (m 3) (m 2)
  | 4 => cellPA addQ lessQ lessQ (m 0) (m 1) (m 2) (m 3)
  | 5 => cellPA lessQ lessQ addQ (m 0) (m 1) (m 2) (m 3)
  | 6 => cellTA lessQ partR (m 0) (m 1) (m 2) (m 3)
  | 7 => cellTA lessQ partI (m 1) (m 0) (m 3) (m 2)
  | 8 => cellTA addQ partR (m 0) (m 2) (m 1) (m 3)
  | 9 => cellTA lessQ partR (m 0) (m 2) (m 1) (m 3)
  | 10 => cellTA addQ partR (m 0) (m 3) (m 1) (m 2)
  | 11 => cellTA lessQ partI (m 1) (m 2) (m 0) (m 3)
  | 12 => cellTA addQ partI (m 0) (m 2) (m 1) (m 3)
  | 13 => cellTA lessQ partI (m 0) (m 2) (m 1) (m 3)
  | 14 => cellTA addQ partI (m 0) (m 3) (m 1) (m 2)
  | _ => cellTA lessQ partR (m 0) (m 3) (m 1) (m 2)
theorem cTS_spec (m : Nat → Q) (k : Nat) (s : Bool) : (cTS m k s).2 = (s && (toD m k).isSome) ∧ ∀ v, toD m k = some v → (cTS m k s).1 = v := by
  match k with
  | 0 => have := cellPA_spec addQ addQ addQ (m 0) (m 1) (m 2) (m 3) s; rw [dPA_eq goodAdd goodAdd goodAdd] at this; exact this
  | 1 => have := cellPA_spec lessQ addQ lessQ (m 0) (m 1) (m 2) (m 3) s; rw [dPA_eq goodLess goodAdd goodLess] at this; exact this
  | 4 => have := cellPA_spec addQ lessQ lessQ (m 0) (m 1) (m 2) (m 3) s; rw [dPA_eq goodAdd goodLess goodLess] at this; exact this
  | 5 => have := cellPA_spec lessQ lessQ addQ (m 0) (m 1) (m 2) (m 3) s; rw [dPA_eq goodLess goodLess goodAdd] at this; exact this
  | 2 => have := cellTA_spec addQ partR (m 0) (m 1) (m 2) (m 3) s; rw [dT_re goodAdd] at this; exact this
  | 3 => have := cellTA_spec addQ partI (m 1) (m 0) (m 3) (m 2) s; rw [dT_im goodAdd] at this; exact this
  | 6 => have := cellTA_spec lessQ partR (m 0) (m 1) (m 2) (m 3) s; rw [dT_re goodLess] at this; exact this
  | 7 => have := cellTA_spec lessQ partI (m 1) (m 0) (m 3) (m 2) s; rw [dT_im goodLess] at this; exact this
  | 8 => have := cellTA_spec addQ partR (m 0) (m 2) (m 1) (m 3) s; rw [dT_re goodAdd] at this; exact this
  | 9 => have := cellTA_spec lessQ partR (m 0) (m 2) (m 1) (m 3) s; rw [dT_re goodLess] at this; exact this
  | 10 => have := cellTA_spec addQ partR (m 0) (m 3) (m 1) (m 2) s; rw [dT_re goodAdd] at this; exact this
  | 11 => have := cellTA_spec lessQ partI (m 1) (m 2) (m 0) (m 3) s; rw [dT_im goodLess] at this; exact this
  | 12 => have := cellTA_spec addQ partI (m 0) (m 2) (m 1) (m 3) s; rw [dT_im goodAdd] at this; exact this
  | 13 => have := cellTA_spec lessQ partI (m 0) (m 2) (m 1) (m 3) s; rw [dT_im goodLess] at this; exact this
  | 14 => have := cellTA_spec addQ partI (m 0) (m 3) (m 1) (m 2) s; rw [dT_im goodAdd] at this; exact this
  | n + 15 => have := cellTA_spec lessQ partR (m 0) (m 3) (m 1) (m 2) s; rw [dT_re goodLess] at this; exact this
def matQ (m : Nat → Q) : Bool := allB (fun k => validQ (m k)) 0 4
def tofI (m : Nat → Q) : List Q × Bool :=
  cellsI (cTI m ((powQ (m 0)).getD zq) ((powQ (m 1)).getD zq) ((powQ (m 2)).getD zq) ((powQ (m 3)).getD zq)) 0 16 (((((false || !matQ m) || !(powQ (m 0)).isSome) || !(powQ (m 1)).isSome) || !(powQ (m 2)).isSome) || !(powQ (m 3)).isSome)
def tofS (m : Nat → Q) : List Q × Bool := cellsI (cTS m) 0 16 (matQ m)
theorem pow_of_toD {m : Nat → Q} (h : (toD m 0).isSome = true) : (powQ (m 0)).isSome = true ∧ (powQ (m 1)).isSome = true ∧ (powQ (m 2)).isSome = true ∧ (powQ (m 3)).isSome = true := by
  unfold toD dP at h
  cases h0 : powQ (m 0) with
  | none => simp [h0, goodAdd.left] at h
  | some a =>
    cases h1 : powQ (m 1) with
    | none => simp [h1, goodAdd.right] at h
    | some b =>
      cases h2 : powQ (m 2) with
      | none =>
        exfalso
        revert h
        cases addQ ((powQ (m 0)).getD zq) ((powQ (m 1)).getD zq) <;> simp [h2, goodAdd.right]
      | some c =>
        cases h3 : powQ (m 3) with
        | none =>
          exfalso
          revert h
          cases addQ ((powQ (m 0)).getD zq) ((powQ (m 1)).getD zq) with
          | none => simp
          | some r => cases h5 : addQ r ((powQ (m 2)).getD zq) <;> simp [h5, h3, goodAdd.right]
        | some d => simp
theorem tofI_eq (m : Nat → Q) : gotL (tofI m).2 (tofI m).1 ++ [.bool (!(tofI m).2)] = nttV 16 (matQ m) (toD m) := by
  have e : (((((false || !matQ m) || !(powQ (m 0)).isSome) || !(powQ (m 1)).isSome) || !(powQ (m 2)).isSome) || !(powQ (m 3)).isSome) = !(matQ m && ((powQ (m 0)).isSome && ((powQ (m 1)).isSome && ((powQ (m 2)).isSome && (powQ (m 3)).isSome)))) := by
    generalize matQ m = x
    generalize (powQ (m 0)).isSome = a
    generalize (powQ (m 1)).isSome = b
    generalize (powQ (m 2)).isSome = c
    generalize (powQ (m 3)).isSome = d
    cases x <;> cases a <;> cases b <;> cases c <;> cases d <;> rfl
  unfold tofI
  rw [e, nttI_eq (cTI_spec m)]
  unfold nttV
  cases hd : allB (fun i => (toD m i).isSome) 0 16 with
  | false => simp
  | true =>
    obtain ⟨p0, p1, p2, p3⟩ := pow_of_toD (allB_get (p := fun i => (toD m i).isSome) hd 0 (by omega) (by omega))
    simp [p0, p1, p2, p3]
theorem tofS_eq (m : Nat → Q) : (if toB (.bool (!matQ m)) = true then zeros 48 ++ [.bool false] else nfinS 16 (tofS m).2 (tofS m).1) = nttV 16 (matQ m) (toD m) := by
  unfold tofS
  rw [nfinA_eq (cTS_spec m), toB_bool]
  cases h : matQ m
  · simp [nttV]
  · simp
end Go.Sx


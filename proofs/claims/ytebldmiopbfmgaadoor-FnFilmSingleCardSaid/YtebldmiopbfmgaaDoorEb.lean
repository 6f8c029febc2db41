/- The symbolic state of a run and its tie to the machine. A part of the proof of FnFilmSingle; no conditions. -/
import Derived.Test.YtebldmiopbfmgaaDoorEa
import Derived.Laws.OwnMore
import Derived.ArgAppend
set_option linter.unusedVariables false
set_option linter.unusedSimpArgs false
/- The symbolic state of a run and the relation to the machine's. -/
namespace Go.Sx
open Go

def Bk.wf (al : Nat → Bool) : Bk → Bool
  | .own id => al id
  | .glob _ => true
def capsWf (al : Nat → Bool) : List (Nat × Nat) → Bool
  | [] => true
  | (id, _) :: r => al id && capsWf al r
def Sc.wf (al : Nat → Bool) (n : Nat) : Sc → Bool
  | .e x => x.lt n
  | .p b _ => b.wf al
  | .pi b _ _ _ ix => b.wf al && ix.lt n
  | .pr x c i _ _ => x.lt n && c.lt n && i.lt n
  | .sl b _ _ _ => b.wf al
  | .fn _ caps => capsWf al caps
def scsWf (al : Nat → Bool) (n : Nat) : List Sc → Bool
  | [] => true
  | s :: r => s.wf al n && scsWf al n r
def CV.wf (al : Nat → Bool) (n : Nat) : CV → Bool
  | .s x => x.wf al n
  | .ag l => scsWf al n l
def cvsWf (al : Nat → Bool) (n : Nat) : List CV → Bool
  | [] => true
  | s :: r => s.wf al n && cvsWf al n r
def SV.wf (al : Nat → Bool) (n : Nat) : SV → Bool
  | .c x => x.wf al n
  | .opt g x => g.lt n && x.wf al n
  | .tu l => cvsWf al n l
  | .unk => true

theorem Ex.lt_mono {n m : Nat} (h : n ≤ m) : ∀ {x : Ex}, x.lt n = true → x.lt m = true := by
  intro x
  induction x <;> intro hx <;> simp only [Ex.lt, Bool.and_eq_true] at hx ⊢
  case var k =>
    have := Nat.le_of_ble_eq_true hx
    exact Nat.ble_eq_true_of_le (by omega)
  all_goals simp_all

section mono
variable {al al' : Nat → Bool} {n m : Nat}
theorem Bk.wf_mono (ha : ∀ id, al id = true → al' id = true) {b : Bk} (h : b.wf al = true) : b.wf al' = true := by
  cases b <;> simp only [Bk.wf] at *; exact ha _ h
theorem capsWf_mono (ha : ∀ id, al id = true → al' id = true) : ∀ {l : List (Nat × Nat)}, capsWf al l = true → capsWf al' l = true
  | [], _ => rfl
  | (id, _) :: r, h => by
    simp only [capsWf, Bool.and_eq_true] at *
    exact ⟨ha _ h.1, capsWf_mono ha h.2⟩
theorem Sc.wf_mono (ha : ∀ id, al id = true → al' id = true) (hn : n ≤ m) {s : Sc} (h : s.wf al n = true) : s.wf al' m = true := by
  cases s <;> simp only [Sc.wf, Bool.and_eq_true] at *
  · exact Ex.lt_mono hn h
  · exact Bk.wf_mono ha h
  · exact ⟨Bk.wf_mono ha h.1, Ex.lt_mono hn h.2⟩
  · exact ⟨⟨Ex.lt_mono hn h.1.1, Ex.lt_mono hn h.1.2⟩, Ex.lt_mono hn h.2⟩
  · exact Bk.wf_mono ha h
  · exact capsWf_mono ha h
theorem scsWf_mono (ha : ∀ id, al id = true → al' id = true) (hn : n ≤ m) : ∀ {l : List Sc}, scsWf al n l = true → scsWf al' m l = true
  | [], _ => rfl
  | s :: r, h => by
    simp only [scsWf, Bool.and_eq_true] at *
    exact ⟨Sc.wf_mono ha hn h.1, scsWf_mono ha hn h.2⟩
theorem CV.wf_mono (ha : ∀ id, al id = true → al' id = true) (hn : n ≤ m) {s : CV} (h : s.wf al n = true) : s.wf al' m = true := by
  cases s <;> simp only [CV.wf] at *
  · exact Sc.wf_mono ha hn h
  · exact scsWf_mono ha hn h
theorem cvsWf_mono (ha : ∀ id, al id = true → al' id = true) (hn : n ≤ m) : ∀ {l : List CV}, cvsWf al n l = true → cvsWf al' m l = true
  | [], _ => rfl
  | s :: r, h => by
    simp only [cvsWf, Bool.and_eq_true] at *
    exact ⟨CV.wf_mono ha hn h.1, cvsWf_mono ha hn h.2⟩
theorem SV.wf_mono (ha : ∀ id, al id = true → al' id = true) (hn : n ≤ m) {s : SV} (h : s.wf al n = true) : s.wf al' m = true := by
  cases s <;> simp only [SV.wf, Bool.and_eq_true] at *
  · exact CV.wf_mono ha hn h
  · exact ⟨Ex.lt_mono hn h.1, CV.wf_mono ha hn h.2⟩
  · exact cvsWf_mono ha hn h
end mono

section ext
variable {al : Nat → Bool} {ρ ρ' : Nat → Nat} {env more : List Value}
theorem ev_ext {x : Ex} {n : Nat} (hn : n ≤ env.length) (h : x.lt n = true) : ev (env ++ more) x = ev env x := ev_append env more x (Ex.lt_mono hn h)
theorem Bk.at_ext (hρ : ∀ id, al id = true → ρ' id = ρ id) {b : Bk} (h : b.wf al = true) : b.at ρ' = b.at ρ := by
  cases b <;> simp only [Bk.wf, Bk.at] at *; exact hρ _ h
theorem Sc.val_ext {n : Nat} (hn : n ≤ env.length) (hρ : ∀ id, al id = true → ρ' id = ρ id) {s : Sc} (h : s.wf al n = true) : s.val ρ' (env ++ more) = s.val ρ env := by
  cases s <;> simp only [Sc.wf, Bool.and_eq_true] at h <;> simp only [Sc.val]
  · exact ev_ext hn h
  · rw [Bk.at_ext hρ h]
  · rw [Bk.at_ext hρ h.1, ev_ext hn h.2]
  · rw [ev_ext hn h.1.1, ev_ext hn h.2]
  · rw [Bk.at_ext hρ h]
  · rename_i f caps
    congr 2
    induction caps with
    | nil => rfl
    | cons c r ih =>
      obtain ⟨id, off⟩ := c
      simp only [capsWf, Bool.and_eq_true] at h
      simp only [List.map_cons, hρ _ h.1, ih h.2]
theorem vals_ext {n : Nat} (hn : n ≤ env.length) (hρ : ∀ id, al id = true → ρ' id = ρ id) : ∀ {l : List Sc}, scsWf al n l = true → vals ρ' (env ++ more) l = vals ρ env l
  | [], _ => rfl
  | s :: r, h => by
    simp only [scsWf, Bool.and_eq_true] at h
    have := vals_ext hn hρ h.2
    simp only [vals] at this
    simp only [vals, List.map_cons, Sc.val_ext hn hρ h.1, this]
theorem CV.val_ext {n : Nat} (hn : n ≤ env.length) (hρ : ∀ id, al id = true → ρ' id = ρ id) {s : CV} (h : s.wf al n = true) : s.val ρ' (env ++ more) = s.val ρ env := by
  cases s <;> simp only [CV.wf] at h <;> simp only [CV.val]
  · exact Sc.val_ext hn hρ h
  · rw [vals_ext hn hρ h]
theorem cvs_ext {n : Nat} (hn : n ≤ env.length) (hρ : ∀ id, al id = true → ρ' id = ρ id) : ∀ {l : List CV}, cvsWf al n l = true → l.map (CV.val ρ' (env ++ more)) = l.map (CV.val ρ env)
  | [], _ => rfl
  | s :: r, h => by
    simp only [cvsWf, Bool.and_eq_true] at h
    simp only [List.map_cons, CV.val_ext hn hρ h.1, cvs_ext hn hρ h.2]
theorem SV.is_ext {n : Nat} (hn : n ≤ env.length) (hρ : ∀ id, al id = true → ρ' id = ρ id) {s : SV} (h : s.wf al n = true) {v : Value} : s.is ρ' (env ++ more) v ↔ s.is ρ env v := by
  cases s <;> simp only [SV.wf, Bool.and_eq_true] at h <;> simp only [SV.is]
  · rw [CV.val_ext hn hρ h]
  · rw [CV.val_ext hn hρ h.2, ev_ext hn h.1]
  · rw [cvs_ext hn hρ h]
theorem Blk.obj_ext {n : Nat} (hn : n ≤ env.length) (hρ : ∀ id, al id = true → ρ' id = ρ id) {b : Blk} (h : scsWf al n b.cells = true) : b.obj ρ' (env ++ more) = b.obj ρ env := by
  simp only [Blk.obj, vals_ext hn hρ h]
end ext

theorem World.heap_old (w : World) (o : Obj) (k : Nat) (h : k < w.heap.size) : (w.alloc o).heap[k]? = w.heap[k]? := by
  show (w.heap.push o)[k]? = _
  rw [Array.getElem?_push, if_neg (Nat.ne_of_lt h)]

/-- What is known of a block: nothing (it is not there), that it is there, what it holds. -/
inductive Ht
  | no
  | ex
  | bl (b : Blk)

/-- A slice that the function has made itself and that nobody else holds: its content, the cells of an element, the element's type. -/
structure Ow where
  x : Ex
  c : Ex
  n : Nat
  e : Nat
def prBeq (a b : Ex × Ex) : Bool := a.1.beq b.1 && a.2.beq b.2
theorem prBeq_eq {a b : Ex × Ex} (h : prBeq a b = true) : a = b := by
  obtain ⟨a1, a2⟩ := a
  obtain ⟨b1, b2⟩ := b
  simp only [prBeq, Bool.and_eq_true] at h
  rw [Ex.beq_eq h.1, Ex.beq_eq h.2]
theorem any_mem {l : List (Ex × Ex)} {y : Ex × Ex} (h : l.any (prBeq y) = true) : y ∈ l := by
  obtain ⟨z, h1, h2⟩ := List.any_eq_true.1 h
  rw [prBeq_eq h2]; exact h1
/-- Slices that were not there when the function began, with their rows; the one that may be appended to. -/
structure Ox where
  fr : List (Ex × Ex)
  ow : Option Ow
def Ox0 : Ox := ⟨[], none⟩

structure St where
  T : List SV
  H : List Ht
  Γ : Ctx
  F : List Ex
  G : List (Ex × Ex × Nat)
  X : Ox := Ox0

def hat (H : List Ht) (id : Nat) : Ht := H.getD id .no

def hget (H : List Ht) (id : Nat) : Option Blk :=
  match hat H id with
  | .bl b => some b
  | _ => none

def alive (H : List Ht) (id : Nat) : Bool :=
  match hat H id with
  | .no => false
  | _ => true

theorem hat_set (H : List Ht) (id : Nat) (b : Ht) (h : id < H.length) (k : Nat) : hat (H.set id b) k = if k = id then b else hat H k := by
  unfold hat
  by_cases hk : k = id
  · subst hk; simp [List.getD, h]
  · rw [if_neg hk]; simp [List.getD, List.getElem?_set_ne (fun e => hk e.symm)]

theorem hat_push (H : List Ht) (b : Ht) (k : Nat) : hat (H ++ [b]) k = if k = H.length then b else hat H k := by
  unfold hat
  by_cases hk : k = H.length
  · subst hk; simp [List.getD]
  · rw [if_neg hk]
    rcases Nat.lt_or_ge k H.length with h | h
    · simp [List.getD, List.getElem?_append_left h]
    · simp only [List.getD]
      rw [List.getElem?_eq_none (by simp; omega), List.getElem?_eq_none h]

theorem hget_set (H : List Ht) (id : Nat) (b : Blk) (h : id < H.length) (k : Nat) : hget (H.set id (.bl b)) k = if k = id then some b else hget H k := by
  unfold hget
  rw [hat_set H id _ h]
  by_cases hk : k = id <;> simp [hk]
theorem hget_push (H : List Ht) (b : Blk) (k : Nat) : hget (H ++ [.bl b]) k = if k = H.length then some b else hget H k := by
  unfold hget
  rw [hat_push]
  by_cases hk : k = H.length <;> simp [hk]
theorem alive_set (H : List Ht) (id : Nat) (b : Blk) (h : id < H.length) (k : Nat) : alive (H.set id (.bl b)) k = if k = id then true else alive H k := by
  unfold alive
  rw [hat_set H id _ h]
  by_cases hk : k = id <;> simp [hk]
theorem alive_push (H : List Ht) (b : Blk) (k : Nat) : alive (H ++ [.bl b]) k = if k = H.length then true else alive H k := by
  unfold alive
  rw [hat_push]
  by_cases hk : k = H.length <;> simp [hk]

theorem alive_lt {H : List Ht} {id : Nat} (h : alive H id = true) : id < H.length := by
  rcases Nat.lt_or_ge id H.length with h' | h'
  · exact h'
  · simp [alive, hat, List.getD, List.getElem?_eq_none h'] at h

theorem alive_of {H : List Ht} {id : Nat} {b : Blk} (h : hget H id = some b) : alive H id = true := by
  unfold hget at h
  unfold alive
  split at h
  · rename_i b' hb; rw [hb]
  · cases h
theorem hget_lt {H : List Ht} {id : Nat} {b : Blk} (h : hget H id = some b) : id < H.length := alive_lt (alive_of h)

theorem hget_hat {H H' : List Ht} {k : Nat} (h : hat H' k = hat H k) : hget H' k = hget H k := by
  unfold hget
  rw [h]
theorem alive_hat {H H' : List Ht} {k : Nat} (h : hat H' k = hat H k) : alive H' k = alive H k := by
  unfold alive
  rw [h]

/-- The blocks that a run may write to, among those that were there; how many of them have fixed numbers. -/
structure Fp where
  bl : List Nat
  pn : Nat

/-- A table of 64-bit numbers; of such a one it is known that nothing else lies in its block. -/
def tabB : List Sc → Bool
  | .e (.int .u64 _) :: _ => true
  | _ => false
def Whole (g : Nat) (l : List Sc) (w : World) : Prop := tabB l = true → ∃ arr t fr, w.heap[g]? = some (.cells arr t fr) ∧ arr.size = l.length
def GlbOk (glb : List (Nat × List Sc)) (w : World) : Prop :=
  ∀ g l, find glb g = some l → (∀ j s, l[j]? = some s → ∀ ρ env, w.cell? ⟨g, j, none⟩ = some (s.val ρ env)) ∧ Whole g l w

/-- What the slice that is called x points to is none of these blocks. -/
def Apart (x c : Value) (k : Nat) : Prop := ¬ BlkOf x c k

/-- The slice of o is the function's own. -/
def Owned (w0 : World) (env : List Value) (ρ : Nat → Nat) (al : Nat → Bool) (G : List (Ex × Ex × Nat)) (o : Ow) (w : World) : Prop :=
  ∃ len xs, ev env o.c = .agg (List.toArray xs) ∧ w.ownsRow w0.heap.size o.e o.n (ev env o.x) len (xs.map hdV) ∧
    ∀ k, (ev env o.x).ownBlock = some k → (∀ id, al id = true → ρ id ≠ k) ∧ ∀ x' c' n', (x', c', n') ∈ G → (∀ a' len' cap', ev env x' = .slice (some a') len' cap' → a'.block = k → a'.off + len' * n' ≤ len * o.n ∧ n' = o.n) ∧ ¬ InBlk (ev env c') k

structure XOk (w0 : World) (env : List Value) (ρ : Nat → Nat) (al : Nat → Bool) (G : List (Ex × Ex × Nat)) (X : Ox) (w : World) : Prop where
  fresh : ∀ p ∈ X.fr, (p.1.lt env.length = true ∧ p.2.lt env.length = true) ∧ ∀ k, BlkOf (ev env p.1) (ev env p.2) k → w0.heap.size ≤ k
  owned : ∀ o, X.ow = some o → o.x.lt env.length = true ∧ o.c.lt env.length = true ∧ Owned w0 env ρ al G o w

theorem XOk.zero {w0 : World} {env : List Value} {ρ : Nat → Nat} {al : Nat → Bool} {G : List (Ex × Ex × Nat)} {w : World} : XOk w0 env ρ al G Ox0 w :=
  ⟨fun x hx => (by cases hx), fun o ho => (by cases ho)⟩

theorem ownsRow_other {w w' : World} {base : Nat} {e : TypeId} {size : Nat} {v : Value} {n : Nat} {xs : List Value} (h : w.ownsRow base e size v n xs) (hk : ∀ k, v.ownBlock = some k → w'.heap[k]? = w.heap[k]?) : w'.ownsRow base e size v n xs := by
  refine ⟨h.1, ?_⟩
  rcases h.2 with hn | ⟨g, cap, cur, rfl, hb, hgg, rest⟩
  · exact .inl hn
  · refine .inr ⟨g, cap, cur, rfl, hb, ?_, rest⟩
    rw [hk g rfl]
    exact hgg

theorem ownsRow_base {w : World} {b b' : Nat} {e n : Nat} {v : Value} {len : Nat} {xs : List Value} (h : w.ownsRow b e n v len xs) (hb : b' ≤ b) : w.ownsRow b' e n v len xs := by
  refine ⟨h.1, h.2.imp _root_.id ?_⟩
  rintro ⟨g, cap, cur, e1, e2, r⟩
  exact ⟨g, cap, cur, e1, Nat.le_trans hb e2, r⟩

/-- The same in another world, under other names. -/
theorem XOk.mono {w0 : World} {env env' : List Value} {ρ ρ' : Nat → Nat} {al al' : Nat → Bool} {G G' : List (Ex × Ex × Nat)} {X : Ox} {w w' : World} (h : XOk w0 env ρ al G X w)
    (henv : ∀ x : Ex, x.lt env.length = true → ev env' x = ev env x ∧ x.lt env'.length = true)
    (hw : ∀ k, w0.heap.size ≤ k → k < w.heap.size → (∀ id, al id = true → ρ id ≠ k) → w'.heap[k]? = w.heap[k]?)
    (hal : ∀ k, w0.heap.size ≤ k → k < w.heap.size → (∀ id, al id = true → ρ id ≠ k) → ∀ id, al' id = true → ρ' id ≠ k)
    (hG : ∀ x c n, (x, c, n) ∈ G' → ((x, c, n) ∈ G ∧ ev env' x = ev env x ∧ ev env' c = ev env c) ∨ ∀ k, BlkOf (ev env' x) (ev env' c) k → w.heap.size ≤ k) : XOk w0 env' ρ' al' G' X w' := by
  refine ⟨fun x hx => ?_, fun o ho => ?_⟩
  · obtain ⟨⟨h1, h1'⟩, h2⟩ := h.fresh x hx
    obtain ⟨e1, e2⟩ := henv _ h1
    obtain ⟨e3, e4⟩ := henv _ h1'
    exact ⟨⟨e2, e4⟩, by rw [e1, e3]; exact h2⟩
  · obtain ⟨h1, h2, len, xs, h3, h4, h5⟩ := h.owned o ho
    obtain ⟨e1, e2⟩ := henv _ h1
    obtain ⟨e3, e4⟩ := henv _ h2
    refine ⟨e2, e4, len, xs, by rw [e3]; exact h3, ?_, ?_⟩
    · rw [e1]
      refine ownsRow_other h4 fun k hk => ?_
      obtain ⟨q1, q2⟩ := h4.lt k hk
      exact hw k q1 q2 (h5 k hk).1
    · rw [e1]
      intro k hk
      obtain ⟨q1, q2⟩ := h4.lt k hk
      obtain ⟨h6, h7⟩ := h5 k hk
      refine ⟨hal k q1 q2 h6, fun x' c' n' hx' => ?_⟩
      rcases hG x' c' n' hx' with ⟨g1, g2, g3⟩ | g
      · rw [g2, g3]
        exact h7 x' c' n' g1
      · refine ⟨fun a' len' cap' ea hb => ?_, fun hb => ?_⟩
        · have := g k (.inl ⟨a', len', cap', ea, hb⟩)
          omega
        · have := g k (.inr hb)
          omega

/-- A function's run began in the world w0; the blocks fp were handed to it. -/
structure Rel (glb : List (Nat × List Sc)) (w0 : World) (fp : Fp) (env : List Value) (ρ : Nat → Nat) (S : St) (a : Act) (w : World) : Prop where
  tmps : TRel ρ env S.T a
  defers : a.defers = []
  typed : Typed env S.Γ
  facts : AllTrue env S.F
  heap : ∀ id b, hget S.H id = some b → w.heap[ρ id]? = some (b.obj ρ env)
  inj : ∀ i j, alive S.H i = true → alive S.H j = true → ρ i = ρ j → i = j
  own : ∀ id, alive S.H id = true → ρ id ∈ fp.bl ∨ w0.heap.size ≤ ρ id
  fpr : ∀ k, k < fp.pn → ρ k = fp.bl.getD k 0
  lt : ∀ id, alive S.H id = true → ρ id < w.heap.size
  rows : ∀ x c n, (x, c, n) ∈ S.G → RowOk w (ev env x) (ev env c) n ∧ ∀ id, alive S.H id = true → Apart (ev env x) (ev env c) (ρ id)
  glob : GlbOk glb w0
  globfp : ∀ g l, find glb g = some l → g < w0.heap.size ∧ g ∉ fp.bl
  os : w.os = w0.os
  tape : w.tape = w0.tape
  output : w.output = w0.output
  size : w0.heap.size ≤ w.heap.size
  frame : ∀ k, k < w0.heap.size → k ∉ fp.bl → w.heap[k]? = w0.heap[k]?
  wfT : ∀ t, (S.T.getD t .unk).wf (alive S.H) env.length = true
  wfH : ∀ id b, hget S.H id = some b → scsWf (alive S.H) env.length b.cells = true
  wfF : ∀ x ∈ S.F, x.lt env.length = true
  wfG : ∀ x c n, (x, c, n) ∈ S.G → x.lt env.length = true ∧ c.lt env.length = true
  wfΓ : ∀ (n : Nat) (t : Ty) (g : Ex), S.Γ[n]? = some (t, some g) → g.lt env.length = true
  ox : XOk w0 env ρ (alive S.H) S.G S.X w

def collect (H : List Ht) : List Nat → List (Nat × Blk)
  | [] => []
  | id :: r => match hget H id with
    | some b => (id, b) :: collect H r
    | none => collect H r

theorem collect_find {H : List Ht} {id : Nat} {b : Blk} : ∀ {l : List Nat}, find (collect H l) id = some b → hget H id = some b
  | [], h => by cases h
  | k :: r, h => by
    simp only [collect] at h
    split at h
    · rename_i b' hb
      simp only [find] at h
      split at h
      · rename_i he
        cases h
        rw [← Nat.eq_of_beq_eq_true he]
        exact hb
      · exact collect_find h
    · exact collect_find h

def St.cx (S : St) (glb : List (Nat × List Sc)) (ids : List Nat) : Cx := { Γ := S.Γ, F := S.F, G := S.G, glb := glb, bs := collect S.H ids }

section
variable {glb : List (Nat × List Sc)} {w0 : World} {fp : Fp} {env : List Value} {ρ : Nat → Nat} {S : St} {a : Act} {w : World}

theorem Rel.glb_cell (R : Rel glb w0 fp env ρ S a w) {g : Nat} {l : List Sc} (h : find glb g = some l) {j : Nat} {s : Sc} (hs : l[j]? = some s) : w.cell? ⟨g, j, none⟩ = some (s.val ρ env) := by
  obtain ⟨h1, h2⟩ := R.globfp g l h
  have := (R.glob g l h).1 j s hs ρ env
  rw [← this]
  simp only [World.cell?]
  rw [R.frame g h1 h2]

theorem Rel.mok (R : Rel glb w0 fp env ρ S a w) (ids : List Nat) : MOk ρ env (S.cx glb ids) w :=
  ⟨R.typed, R.facts, fun id b h => R.heap id b (collect_find h), fun _ _ h _ _ hs => R.glb_cell h hs, fun x c n h => (R.rows x c n h).1⟩

/-- A temporary is written. -/
def putT (T : List SV) : Option Nat → SV → List SV
  | some d, sv => T.set d sv
  | none, _ => T

theorem TRel.put (h : TRel ρ env S.T a) {d : Option Nat} {sv : SV} {v : Value} (hv : sv.is ρ env v) : TRel ρ env (putT S.T d sv) (a.put d v) := by
  cases d with
  | none => exact h
  | some d =>
    refine ⟨by simp [putT, Act.put, h.1], fun t => ?_⟩
    simp only [putT, Act.put]
    have h2 := h.2 t
    by_cases hd : d = t
    · subst hd
      rcases Nat.lt_or_ge d S.T.length with hl | hl
      · have hl' : d < a.tmps.size := by rw [h.1]; exact hl
        simp only [List.getD, List.getElem?_set_self hl, Option.getD_some, Array.getD_eq_getD_getElem?, Array.getElem?_setIfInBounds_self_of_lt hl']
        exact hv
      · rw [List.set_eq_of_length_le hl]
        have : a.tmps.setIfInBounds d v = a.tmps := by
          apply Array.setIfInBounds_eq_of_size_le; have := h.1; omega
        rw [this]
        exact h2
    · simp only [List.getD, List.getElem?_set_ne hd, Array.getD_eq_getD_getElem?, Array.getElem?_setIfInBounds_ne hd]
      simpa [List.getD, Array.getD_eq_getD_getElem?] using h2

theorem putT_wf {al : Nat → Bool} {n : Nat} {T : List SV} (h : ∀ t, (T.getD t .unk).wf al n = true) {d : Option Nat} {sv : SV} (hs : sv.wf al n = true) : ∀ t, ((putT T d sv).getD t .unk).wf al n = true := by
  intro t
  cases d with
  | none => exact h t
  | some d =>
    simp only [putT, List.getD]
    by_cases hd : d = t
    · subst hd
      rcases Nat.lt_or_ge d T.length with hl | hl
      · simpa [List.getElem?_set_self hl] using hs
      · rw [List.set_eq_of_length_le hl]; exact h d
    · rw [List.getElem?_set_ne hd]; exact h t

theorem Rel.pure (R : Rel glb w0 fp env ρ S a w) {d : Option Nat} {sv : SV} {v : Value} (hv : sv.is ρ env v) (hw : sv.wf (alive S.H) env.length = true) {nd : List Ex} (hn : AllTrue env nd)
    (hnl : ∀ x ∈ nd, x.lt env.length = true) : Rel glb w0 fp env ρ { S with T := putT S.T d sv, F := nd ++ S.F } (a.put d v) w :=
  { R with
    tmps := R.tmps.put hv
    defers := by cases d <;> exact R.defers
    facts := fun x hx => (List.mem_append.1 hx).elim (hn x) (R.facts x)
    wfT := putT_wf R.wfT hw
    wfF := fun x hx => (List.mem_append.1 hx).elim (hnl x) (R.wfF x) }

/-- A new block. -/
theorem Rel.alloc (R : Rel glb w0 fp env ρ S a w) {d : Option Nat} {b : Blk} {c : CV} {nid : Nat} {H' : List Ht} (hfp : fp.pn ≤ nid) (hnew : alive S.H nid = false)
    (hH' : ∀ k, hget H' k = if k = nid then some b else hget S.H k) (hA' : ∀ k, alive H' k = if k = nid then true else alive S.H k) (hb : scsWf (alive S.H) env.length b.cells = true)
    (hc : c.wf (alive H') env.length = true) (ρ' : Nat → Nat) (hρ1 : ρ' nid = w.heap.size) (hρ2 : ∀ id, id ≠ nid → ρ' id = ρ id) :
    Rel glb w0 fp env ρ' { S with T := putT S.T d (.c c), H := H' } (a.put d (c.val ρ' env)) (w.alloc (b.obj ρ env)) := by
  have hal : ∀ id, alive S.H id = true → ρ' id = ρ id := by
    intro id h
    exact hρ2 id (fun e => by rw [e, hnew] at h; cases h)
  have hup : ∀ id, alive S.H id = true → alive H' id = true := by
    intro id h
    rw [hA']; split
    · rfl
    · exact h
  have hdown : ∀ id, alive H' id = true → id = nid ∨ alive S.H id = true := by
    intro id h
    rw [hA'] at h
    split at h
    · exact .inl ‹_›
    · exact .inr h
  have hbo : b.obj ρ' env = b.obj ρ env := by
    have := Blk.obj_ext (al := alive S.H) (ρ := ρ) (ρ' := ρ') (env := env) (more := []) (Nat.le_refl _) hal hb
    simpa using this
  have hT : TRel ρ' env S.T a := ⟨R.tmps.1, fun t => by
    have := SV.is_ext (al := alive S.H) (ρ := ρ) (ρ' := ρ') (env := env) (more := []) (Nat.le_refl _) hal (R.wfT t) (v := a.tmps.getD t undef)
    rw [List.append_nil] at this
    exact this.2 (R.tmps.2 t)⟩
  refine
    { tmps := TRel.put (S := { S with H := H' }) hT rfl
      defers := by cases d <;> exact R.defers
      typed := R.typed
      facts := R.facts
      heap := ?_
      inj := ?_
      own := ?_
      fpr := ?_
      lt := ?_
      rows := ?_
      glob := R.glob
      globfp := R.globfp
      os := R.os
      tape := R.tape
      output := R.output
      size := by have := R.size; simp; omega
      frame := ?_
      wfT := putT_wf (fun t => SV.wf_mono hup (Nat.le_refl _) (R.wfT t)) hc
      wfH := ?_
      wfF := R.wfF
      wfG := R.wfG
      wfΓ := R.wfΓ
      ox := R.ox.mono (fun x hx => ⟨rfl, hx⟩) (fun k _ hk _ => World.heap_old w _ k hk) (fun k _ hk hn id hid => by
        rcases hdown id hid with rfl | hid
        · rw [hρ1]; omega
        · rw [hal id hid]; exact hn id hid) (fun x c n hx => .inl ⟨hx, rfl, rfl⟩) }
  · intro id b' hb'
    simp only at hb'
    rw [hH'] at hb'
    split at hb'
    · rename_i he
      cases hb'
      rw [he, hρ1, hbo]
      exact heap_alloc_new w _
    · have h1 := R.heap id b' hb'
      rw [hal id (alive_of hb'), World.heap_old w _ _ (R.lt id (alive_of hb')), h1]
      have := Blk.obj_ext (al := alive S.H) (ρ := ρ) (ρ' := ρ') (env := env) (more := []) (Nat.le_refl _) hal (R.wfH id b' hb')
      rw [List.append_nil] at this
      rw [this]
  · intro i j hi hj he
    rcases hdown i hi with rfl | hi <;> rcases hdown j hj with rfl | hj
    · rfl
    · rw [hρ1, hal j hj] at he; have := R.lt j hj; omega
    · rw [hρ1, hal i hi] at he; have := R.lt i hi; omega
    · rw [hal i hi, hal j hj] at he; exact R.inj i j hi hj he
  · intro id hid
    rcases hdown id hid with rfl | hid
    · rw [hρ1]; exact .inr R.size
    · rw [hal id hid]; exact R.own id hid
  · intro k hk
    rw [hρ2 k (by omega)]
    exact R.fpr k hk
  · intro id hid
    rcases hdown id hid with rfl | hid
    · rw [hρ1]; simp
    · rw [hal id hid]; have := R.lt id hid; simp; omega
  · intro x c n hx
    obtain ⟨h1, h2⟩ := R.rows x c n hx
    refine ⟨?_, ?_⟩
    · exact h1.keep (by simp) fun k hk => World.heap_old w _ k (h1.block hk)
    · intro id hid
      rcases hdown id hid with rfl | hid
      · intro hb
        rw [hρ1] at hb
        have := h1.block hb
        omega
      · rw [hal id hid]; exact h2 id hid
  · intro k hk hkf
    rw [World.heap_old w _ k (by have := R.size; omega)]
    exact R.frame k hk hkf
  · intro id b' hb'
    simp only at hb'
    rw [hH'] at hb'
    split at hb'
    · cases hb'
      exact scsWf_mono hup (Nat.le_refl _) hb
    · exact scsWf_mono hup (Nat.le_refl _) (R.wfH id b' hb')

/-- A store. -/
theorem Rel.store (R : Rel glb w0 fp env ρ S a w) {d : Option Nat} {id : Nat} {b : Blk} {w' : World} (hid : alive S.H id = true) (hb : scsWf (alive S.H) env.length b.cells = true) (hs : Stored ρ env id b w w') :
    Rel glb w0 fp env ρ { S with T := putT S.T d (.tu []), H := S.H.set id (.bl b) } (a.put d undef) w' := by
  have hlt := alive_lt hid
  have hal : ∀ k, alive (S.H.set id (.bl b)) k = alive S.H k := by
    intro k
    rw [alive_set _ _ _ hlt]
    split
    · rename_i he; rw [he, hid]
    · rfl
  have hal' : alive (S.H.set id (.bl b)) = alive S.H := funext hal
  have hblk : ∀ k, k ≠ ρ id → w'.heap[k]? = w.heap[k]? := hs.other
  refine
    { tmps := TRel.put (S := { S with H := S.H.set id (.bl b) }) R.tmps rfl
      defers := by cases d <;> exact R.defers
      typed := R.typed
      facts := R.facts
      heap := ?_
      inj := by simp only [hal]; exact R.inj
      own := by simp only [hal]; exact R.own
      fpr := R.fpr
      lt := by simp only [hal, hs.size]; exact R.lt
      rows := ?_
      glob := R.glob
      globfp := R.globfp
      os := hs.os.trans R.os
      tape := hs.tape.trans R.tape
      output := hs.output.trans R.output
      size := by rw [hs.size]; exact R.size
      frame := ?_
      wfT := by simp only [hal']; exact putT_wf R.wfT rfl
      wfH := ?_
      wfF := R.wfF
      wfG := R.wfG
      wfΓ := R.wfΓ
      ox := R.ox.mono (fun x hx => ⟨rfl, hx⟩) (fun k _ _ hn => hblk k (fun e => hn id hid e.symm)) (fun k _ _ hn => by simp only [hal]; exact hn) (fun x c n hx => .inl ⟨hx, rfl, rfl⟩) }
  · intro k bk hk
    rw [hget_set _ _ _ hlt] at hk
    split at hk
    · rename_i he
      cases hk
      rw [he]
      exact hs.blk
    · rename_i hne
      rw [hblk _ (fun e => hne (R.inj _ _ (alive_of hk) hid e))]
      exact R.heap k bk hk
  · intro x c n hx
    obtain ⟨h1, h2⟩ := R.rows x c n hx
    refine ⟨?_, by simp only [hal]; exact h2⟩
    exact h1.keep (by rw [hs.size]; exact Nat.le_refl _) fun k hk => hblk k fun e => h2 id hid (by rw [← e]; exact hk)
  · intro k hk hkf
    have : k ≠ ρ id := by
      intro e
      rcases R.own id hid with h | h
      · rw [← e] at h; exact hkf h
      · omega
    rw [hblk k this]
    exact R.frame k hk hkf
  · intro k bk hk
    rw [hal']
    rw [hget_set _ _ _ hlt] at hk
    split at hk
    · cases hk; exact hb
    · exact R.wfH k bk hk
end
end Go.Sx

/- Calls: a contract's shape, how it is matched at a call, and what the state is afterwards. -/
namespace Go.Sx
open Go

structure Sig where
  args : List CV
  pre : List Blk
  tin : List Ty
  gin : List (Nat × Nat × Nat)
  res : SV
  post : List Blk
  tout : List Ty
  gout : List (Nat × Nat × Nat)
  gown : Option (Nat × Nat × Nat × Nat) := none

abbrev Spec := List Value → (List Value → Prop) → Prop

def TypedL (ts : List Ty) (vs : List Value) : Prop := vs.length = ts.length ∧ ∀ n t, ts[n]? = some t → HasTy t (vs.getD n undef)

def at0 (bs : List Nat) (k : Nat) : Nat := bs.getD k 0

/-- The slice x is held by nobody but who is given it. -/
def OwnR (w w' : World) (bs' : List Nat) (outs : List Value) (g : List (Nat × Nat × Nat)) (x c n e : Nat) : Prop :=
  ∃ len xs, outs.getD c undef = .agg (List.toArray xs) ∧ w'.ownsRow w.heap.size e n (outs.getD x undef) len (xs.map hdV) ∧
    ∀ k, (outs.getD x undef).ownBlock = some k → k ∉ bs' ∧ ∀ x' c' n', (x', c', n') ∈ g →
      (∀ a' len' cap', outs.getD x' undef = .slice (some a') len' cap' → a'.block = k → a'.off + len' * n' ≤ len * n ∧ n' = n) ∧ ¬ InBlk (outs.getD c' undef) k
/-- What a call that goes by a contract leaves. -/
structure Left' (sig : Sig) (bs : List Nat) (K : List Value → Prop) (w : World) (outs : List Value) (bs' : List Nat) (v : Value) (w' : World) : Prop where
  post : K outs
  typed : TypedL sig.tout outs
  len : bs'.length = sig.post.length
  old : ∀ k, k < bs.length → at0 bs' k = at0 bs k
  new : ∀ k, bs.length ≤ k → k < bs'.length → w.heap.size ≤ at0 bs' k
  nodup : bs'.Nodup
  res : sig.res.is (at0 bs') outs v
  blk : ∀ k b, sig.post[k]? = some b → w'.heap[at0 bs' k]? = some (b.obj (at0 bs') outs)
  rows : ∀ x c n, (x, c, n) ∈ sig.gout → RowOk w' (outs.getD x undef) (outs.getD c undef) n ∧ ∀ k, BlkOf (outs.getD x undef) (outs.getD c undef) k → w.heap.size ≤ k ∧ k ∉ bs'
  os : w'.os = w.os
  tape : w'.tape = w.tape
  output : w'.output = w.output
  size : w.heap.size ≤ w'.heap.size
  frame : ∀ k, k < w.heap.size → k ∉ bs → w'.heap[k]? = w.heap[k]?
  owns : ∀ x c n e, sig.gown = some (x, c, n, e) → (x, c, n) ∈ sig.gout ∧ OwnR w w' bs' outs sig.gout x c n e := by intro _ _ _ _ h; cases h

structure Given (glb : List (Nat × List Sc)) (sig : Sig) (bs : List Nat) (ins : List Value) (w : World) : Prop where
  glob : GlbOk glb w
  globbs : ∀ g l, find glb g = some l → g < w.heap.size ∧ g ∉ bs
  len : bs.length = sig.pre.length
  nodup : bs.Nodup
  typed : TypedL sig.tin ins
  blk : ∀ k b, sig.pre[k]? = some b → w.heap[at0 bs k]? = some (b.obj (at0 bs) ins)
  rows : ∀ x c n, (x, c, n) ∈ sig.gin → RowOk w (ins.getD x undef) (ins.getD c undef) n ∧ ∀ k ∈ bs, Apart (ins.getD x undef) (ins.getD c undef) k

/-- **A contract**: the function f, called so, does as the spec says, and touches nothing else. -/
def ConOK (P : Program) (glb : List (Nat × List Sc)) (f : Nat) (sig : Sig) (spec : Spec) : Prop :=
  ∀ (w : World) (bs : List Nat) (ins : List Value) (K : List Value → Prop), Given glb sig bs ins w → spec ins K →
    Calls P f (sig.args.map (CV.val (at0 bs) ins)).toArray w fun e w' => ∃ outs bs' v, e = .returned v ∧ Left' sig bs K w outs bs' v w'

/-! matching -/
structure Mt where
  vs : List Ex
  μ : List Nat

def bindId (m : Mt) (k id : Nat) : Option Mt :=
  match m.μ[k]? with
  | some id' => if Nat.beq id id' then some m else none
  | none => if Nat.beq k m.μ.length && !(m.μ.any (Nat.beq id)) then some { m with μ := m.μ ++ [id] } else none

def mCaps : List (Nat × Nat) → List (Nat × Nat) → Mt → Option Mt
  | [], [], m => some m
  | (k, o) :: l, (id, o') :: l', m => if Nat.beq o o' then match bindId m k id with
    | some m' => mCaps l l' m'
    | none => none else none
  | _, _, _ => none

def mSc : Sc → Sc → Mt → Option Mt
  | .e (.var i), .e x, m => if Nat.beq i m.vs.length then some { m with vs := m.vs ++ [x] } else none
  | .e (.int k z), .e (.int k' z'), m => if decide (k = k') && intBeq z z' then some m else none
  | .e (.bool b), .e (.bool b'), m => if b == b' then some m else none
  | .p (.own k) o, .p (.own id) o', m => if Nat.beq o o' then bindId m k id else none
  | .sl (.own k) o l c, .sl (.own id) o' l' c', m => if Nat.beq o o' && Nat.beq l l' && Nat.beq c c' then bindId m k id else none
  | .fn f caps, .fn f' caps', m => if Nat.beq f f' then mCaps caps caps' m else none
  | _, _, _ => none

def mScs : List Sc → List Sc → Mt → Option Mt
  | [], [], m => some m
  | a :: l, b :: l', m => match mSc a b m with
    | some m' => mScs l l' m'
    | none => none
  | _, _, _ => none

def mCV : CV → CV → Mt → Option Mt
  | .s a, .s b, m => mSc a b m
  | .ag l, .ag l', m => mScs l l' m
  | _, _, _ => none

def mCVs : List CV → List CV → Mt → Option Mt
  | [], [], m => some m
  | a :: l, b :: l', m => match mCV a b m with
    | some m' => mCVs l l' m'
    | none => none
  | _, _, _ => none

/-- The blocks handed over, one by one; k: the number of the next one. -/
def mPre (H : List Ht) : List Blk → Nat → Mt → Option Mt
  | [], _, m => some m
  | b :: r, k, m => match m.μ[k]? with
    | some id => match hget H id with
      | some b' => if Nat.beq b.ty b'.ty then match mScs b.cells b'.cells m with
        | some m' => mPre H r (k + 1) m'
        | none => none else none
      | none => none
    | none => none

def findG (G : List (Ex × Ex × Nat)) (x : Ex) (n : Nat) : Option Ex :=
  match G with
  | [] => none
  | (x', c, n') :: r => if x.beq x' && Nat.beq n n' then some c else findG r x n

/-- The row of a slice: a known one, or that of a fat cell's slice. -/
def rowG (Γ : Ctx) (F : List Ex) (G : List (Ex × Ex × Nat)) (x : Ex) (n : Nat) : Option Ex :=
  match findG G x n with
  | some c => some c
  | none => if Nat.beq n 1 then fatG Γ F G x else none
def mGh (Γ : Ctx) (F : List Ex) (G : List (Ex × Ex × Nat)) : List (Nat × Nat × Nat) → Mt → Option Mt
  | [], m => some m
  | (x, c, n) :: r, m => match m.vs[x]? with
    | some xe => match rowG Γ F G xe n with
      | some ce => if Nat.beq c m.vs.length then mGh Γ F G r { m with vs := m.vs ++ [ce] } else none
      | none => none
    | none => none

def tysOk (Γ : Ctx) (F : List Ex) : List Ex → List Ty → Bool
  | [], [] => true
  | x :: l, t :: ts => (match ty Γ F x with
    | some t' => t.beq t' || (t.beq .one && t'.cell)
    | none => false) && tysOk Γ F l ts
  | _, _ => false

def mCall (S : St) (sig : Sig) (acts : List CV) : Option Mt :=
  match mCVs sig.args acts { vs := [], μ := [] } with
  | some m => match mPre S.H sig.pre 0 m with
    | some m => match mGh S.Γ S.F S.G sig.gin m with
      | some m => if Nat.beq m.μ.length sig.pre.length && tysOk S.Γ S.F m.vs sig.tin then some m else none
      | none => none
    | none => none
  | none => none

/-! what matching says -/
def Mt.le (m m' : Mt) : Prop := m.vs <+: m'.vs ∧ m.μ <+: m'.μ
theorem Mt.le_refl (m : Mt) : m.le m := ⟨List.prefix_refl _, List.prefix_refl _⟩
theorem Mt.le.le_trans {a b c : Mt} (h : a.le b) (h' : b.le c) : a.le c := ⟨h.1.trans h'.1, h.2.trans h'.2⟩

theorem bindId_le {m m' : Mt} {k id : Nat} (h : bindId m k id = some m') : m.le m' := by
  unfold bindId at h
  split at h
  · split at h
    · cases h; exact Mt.le_refl m
    · cases h
  · split at h
    · cases h; exact ⟨List.prefix_refl _, List.prefix_append _ _⟩
    · cases h

theorem prefix_get {α : Type} {l l' : List α} (h : l <+: l') {k : Nat} {a : α} (hk : l[k]? = some a) : l'[k]? = some a := by
  obtain ⟨r, rfl⟩ := h
  rw [List.getElem?_append_left (List.getElem?_eq_some_iff.1 hk).1]
  exact hk

theorem bindId_get {m m' : Mt} {k id : Nat} (h : bindId m k id = some m') : m'.μ[k]? = some id := by
  unfold bindId at h
  split at h
  · rename_i id' hk
    split at h
    · rename_i he; cases h; rw [hk, Nat.eq_of_beq_eq_true he]
    · cases h
  · rename_i hk
    split at h
    · rename_i he
      simp only [Bool.and_eq_true] at he
      cases h
      rw [Nat.eq_of_beq_eq_true he.1]
      simp
    · cases h

theorem bindId_nodup {m m' : Mt} {k id : Nat} (h : bindId m k id = some m') (hn : m.μ.Nodup) : m'.μ.Nodup := by
  unfold bindId at h
  split at h
  · split at h
    · cases h; exact hn
    · cases h
  · split at h
    · rename_i he
      simp only [Bool.and_eq_true, Bool.not_eq_true', List.any_eq_false] at he
      cases h
      refine List.nodup_append.2 ⟨hn, by simp, ?_⟩
      intro a ha b hb
      rw [List.mem_singleton.1 hb]
      intro e
      have := he.2 a ha
      rw [e] at this
      simp at this
    · cases h

section
variable {ρ : Nat → Nat} {env : List Value}

theorem at0_map {μ : List Nat} {k id : Nat} (h : μ[k]? = some id) : at0 (μ.map ρ) k = ρ id := by
  simp [at0, List.getD, h]

theorem mCaps_ok : ∀ {l l' : List (Nat × Nat)} {m m' : Mt}, mCaps l l' m = some m' → (m.μ.Nodup → m'.μ.Nodup) ∧ m.le m' ∧ ∀ F : Mt, m'.le F →
    l.map (fun c => Value.pointer (some ⟨at0 (F.μ.map ρ) c.1, c.2, none⟩)) = l'.map fun c => Value.pointer (some ⟨ρ c.1, c.2, none⟩)
  | [], [], m, m', h => by cases h; exact ⟨_root_.id, Mt.le_refl _, fun _ _ => rfl⟩
  | (k, o) :: l, (id, o') :: l', m, m', h => by
    simp only [mCaps] at h
    split at h
    · rename_i ho
      split at h
      · rename_i m1 h1
        obtain ⟨i1, i2, i3⟩ := mCaps_ok (l := l) (l' := l') h
        refine ⟨fun hn => i1 (bindId_nodup h1 hn), (bindId_le h1).le_trans i2, fun F hF => ?_⟩
        have hk := prefix_get (i2.le_trans hF).2 (bindId_get h1)
        simp only [List.map_cons, i3 F hF, at0_map hk, Nat.eq_of_beq_eq_true ho]
      · cases h
    · cases h
  | [], _ :: _, _, _, h => by cases h
  | _ :: _, [], _, _, h => by cases h

theorem mSc_ok {a b : Sc} {m m' : Mt} (h : mSc a b m = some m') : (m.μ.Nodup → m'.μ.Nodup) ∧ m.le m' ∧ ∀ F : Mt, m'.le F → a.val (at0 (F.μ.map ρ)) (F.vs.map (ev env)) = b.val ρ env := by
  unfold mSc at h
  split at h
  · rename_i i x
    split at h
    · rename_i hi
      cases h
      refine ⟨_root_.id, ⟨List.prefix_append _ _, List.prefix_refl _⟩, fun F hF => ?_⟩
      have : F.vs[i]? = some x := prefix_get hF.1 (by rw [Nat.eq_of_beq_eq_true hi]; simp)
      simp [Sc.val, ev, List.getD, this]
    · cases h
  · rename_i k z k' z'
    split at h
    · rename_i he
      simp only [Bool.and_eq_true, decide_eq_true_eq] at he
      cases h
      exact ⟨_root_.id, Mt.le_refl _, fun F _ => by simp [Sc.val, ev, he.1, intBeq_eq he.2]⟩
    · cases h
  · rename_i x y
    split at h
    · rename_i he
      cases h
      exact ⟨_root_.id, Mt.le_refl _, fun F _ => by simp at he; simp [Sc.val, ev, he]⟩
    · cases h
  · rename_i k o id o'
    split at h
    · rename_i he
      refine ⟨bindId_nodup h, bindId_le h, fun F hF => ?_⟩
      have hk := prefix_get hF.2 (bindId_get h)
      simp only [Sc.val, Bk.at, at0_map hk, Nat.eq_of_beq_eq_true he]
    · cases h
  · rename_i k o l c id o' l' c'
    split at h
    · rename_i he
      simp only [Bool.and_eq_true] at he
      refine ⟨bindId_nodup h, bindId_le h, fun F hF => ?_⟩
      have hk := prefix_get hF.2 (bindId_get h)
      simp only [Sc.val, Bk.at, at0_map hk, Nat.eq_of_beq_eq_true he.1.1, Nat.eq_of_beq_eq_true he.1.2, Nat.eq_of_beq_eq_true he.2]
    · cases h
  · rename_i f caps f' caps'
    split at h
    · rename_i he
      obtain ⟨i1, i2, i3⟩ := mCaps_ok (ρ := ρ) h
      refine ⟨i1, i2, fun F hF => ?_⟩
      simp only [Sc.val, i3 F hF, Nat.eq_of_beq_eq_true he]
    · cases h
  · cases h

theorem mScs_ok : ∀ {l l' : List Sc} {m m' : Mt}, mScs l l' m = some m' → (m.μ.Nodup → m'.μ.Nodup) ∧ m.le m' ∧ ∀ F : Mt, m'.le F → vals (at0 (F.μ.map ρ)) (F.vs.map (ev env)) l = vals ρ env l'
  | [], [], m, m', h => by cases h; exact ⟨_root_.id, Mt.le_refl _, fun _ _ => rfl⟩
  | a :: l, b :: l', m, m', h => by
    simp only [mScs] at h
    split at h
    · rename_i m1 h1
      obtain ⟨j1, j2, j3⟩ := mSc_ok (ρ := ρ) (env := env) h1
      obtain ⟨i1, i2, i3⟩ := mScs_ok (l := l) (l' := l') h
      refine ⟨fun hn => i1 (j1 hn), j2.le_trans i2, fun F hF => ?_⟩
      have := i3 F hF
      simp only [vals] at this
      simp only [vals, List.map_cons, j3 F (i2.le_trans hF), this]
    · cases h
  | [], _ :: _, _, _, h => by cases h
  | _ :: _, [], _, _, h => by cases h

theorem mCV_ok {a b : CV} {m m' : Mt} (h : mCV a b m = some m') : (m.μ.Nodup → m'.μ.Nodup) ∧ m.le m' ∧ ∀ F : Mt, m'.le F → a.val (at0 (F.μ.map ρ)) (F.vs.map (ev env)) = b.val ρ env := by
  unfold mCV at h
  split at h
  · exact mSc_ok h
  · obtain ⟨i1, i2, i3⟩ := mScs_ok (ρ := ρ) (env := env) h
    exact ⟨i1, i2, fun F hF => by simp only [CV.val, i3 F hF]⟩
  · cases h

theorem mCVs_ok : ∀ {l l' : List CV} {m m' : Mt}, mCVs l l' m = some m' → (m.μ.Nodup → m'.μ.Nodup) ∧ m.le m' ∧ ∀ F : Mt, m'.le F → l.map (CV.val (at0 (F.μ.map ρ)) (F.vs.map (ev env))) = l'.map (CV.val ρ env)
  | [], [], m, m', h => by cases h; exact ⟨_root_.id, Mt.le_refl _, fun _ _ => rfl⟩
  | a :: l, b :: l', m, m', h => by
    simp only [mCVs] at h
    split at h
    · rename_i m1 h1
      obtain ⟨j1, j2, j3⟩ := mCV_ok (ρ := ρ) (env := env) h1
      obtain ⟨i1, i2, i3⟩ := mCVs_ok (l := l) (l' := l') h
      exact ⟨fun hn => i1 (j1 hn), j2.le_trans i2, fun F hF => by simp only [List.map_cons, j3 F (i2.le_trans hF), i3 F hF]⟩
    · cases h
  | [], _ :: _, _, _, h => by cases h
  | _ :: _, [], _, _, h => by cases h

theorem mPre_ok {H : List Ht} : ∀ {l : List Blk} {k : Nat} {m m' : Mt}, mPre H l k m = some m' → (m.μ.Nodup → m'.μ.Nodup) ∧ m.le m' ∧ ∀ F : Mt, m'.le F →
    ∀ j b, l[j]? = some b → ∃ id b', F.μ[k + j]? = some id ∧ hget H id = some b' ∧ b.obj (at0 (F.μ.map ρ)) (F.vs.map (ev env)) = b'.obj ρ env
  | [], k, m, m', h => by cases h; exact ⟨_root_.id, Mt.le_refl _, fun _ _ j b hj => by simp at hj⟩
  | b :: r, k, m, m', h => by
    simp only [mPre] at h
    split at h
    · rename_i id hid
      split at h
      · rename_i b' hb'
        split at h
        · rename_i hty
          split at h
          · rename_i m1 h1
            obtain ⟨j1, j2, j3⟩ := mScs_ok (ρ := ρ) (env := env) h1
            obtain ⟨i1, i2, i3⟩ := mPre_ok (l := r) (k := k + 1) h
            refine ⟨fun hn => i1 (j1 hn), j2.le_trans i2, fun F hF j bb hj => ?_⟩
            cases j with
            | zero =>
              cases hj
              refine ⟨id, b', prefix_get ((j2.le_trans i2).le_trans hF).2 hid, hb', ?_⟩
              simp only [Blk.obj, j3 F (i2.le_trans hF), Nat.eq_of_beq_eq_true hty]
            | succ j =>
              obtain ⟨id2, b2, e1, e2, e3⟩ := i3 F hF j bb hj
              exact ⟨id2, b2, by rw [show k + (j + 1) = k + 1 + j by omega]; exact e1, e2, e3⟩
          · cases h
        · cases h
      · cases h
    · cases h

theorem findG_mem : ∀ {G : List (Ex × Ex × Nat)} {x : Ex} {n : Nat} {c : Ex}, findG G x n = some c → (x, c, n) ∈ G
  | [], _, _, _, h => by cases h
  | (x', c', n') :: r, x, n, c, h => by
    simp only [findG] at h
    split at h
    · rename_i he
      simp only [Bool.and_eq_true] at he
      cases h
      rw [Ex.beq_eq he.1, Nat.eq_of_beq_eq_true he.2]
      exact List.mem_cons_self
    · exact List.mem_cons_of_mem _ (findG_mem h)

theorem rowG_in {Γ : Ctx} {F : List Ex} {G : List (Ex × Ex × Nat)} {x c : Ex} {n : Nat} (h : rowG Γ F G x n = some c) : (x, c, n) ∈ G ∨ (n = 1 ∧ fatG Γ F G x = some c) := by
  unfold rowG at h
  split at h
  · rename_i c' hc
    cases h
    exact .inl (findG_mem hc)
  · split at h
    · rename_i hn
      exact .inr ⟨Nat.eq_of_beq_eq_true hn, h⟩
    · cases h
/-- The same, for whatever goes on to what fat cells hold. -/
theorem rowQ {Γ : Ctx} {F : List Ex} {G : List (Ex × Ex × Nat)} (HΓ : Typed env Γ) (HF : AllTrue env F) {Q : Value → Value → Nat → Prop} (hG : ∀ x c n, (x, c, n) ∈ G → Q (ev env x) (ev env c) n)
    (hQ : ∀ x c n v s cc, Q x c n → v ∈ c.cells → v = .tuple #[s, cc] → Q s cc 1) {x c : Ex} {n : Nat} (h : rowG Γ F G x n = some c) : Q (ev env x) (ev env c) n := by
  rcases rowG_in h with h2 | ⟨hn, h2⟩
  · exact hG _ _ _ h2
  · rw [hn]; exact fatQ HΓ HF hG hQ h2
theorem mGh_ok {Γ : Ctx} {F₀ : List Ex} {G : List (Ex × Ex × Nat)} : ∀ {l : List (Nat × Nat × Nat)} {m m' : Mt}, mGh Γ F₀ G l m = some m' → m'.μ = m.μ ∧ m.le m' ∧ ∀ F : Mt, m'.le F →
    ∀ x c n, (x, c, n) ∈ l → ∃ xe ce, rowG Γ F₀ G xe n = some ce ∧ (F.vs.map (ev env)).getD x undef = ev env xe ∧ (F.vs.map (ev env)).getD c undef = ev env ce
  | [], m, m', h => by cases h; exact ⟨rfl, Mt.le_refl _, fun _ _ x c n hx => by cases hx⟩
  | (x, c, n) :: r, m, m', h => by
    simp only [mGh] at h
    split at h
    · rename_i xe hxe
      split at h
      · rename_i ce hce
        split at h
        · rename_i hc
          obtain ⟨i1, i2, i3⟩ := mGh_ok (l := r) h
          have hle : m.le { m with vs := m.vs ++ [ce] } := ⟨List.prefix_append _ _, List.prefix_refl _⟩
          refine ⟨i1, hle.le_trans i2, fun F hF x' c' n' hx => ?_⟩
          rcases List.mem_cons.1 hx with he | hx
          · cases he
            have h1 := prefix_get ((hle.le_trans i2).le_trans hF).1 hxe
            have h2 : F.vs[c]? = some ce := prefix_get (i2.le_trans hF).1 (by rw [Nat.eq_of_beq_eq_true hc]; simp)
            exact ⟨xe, ce, hce, by simp [List.getD, h1], by simp [List.getD, h2]⟩
          · exact i3 F hF x' c' n' hx
        · cases h
      · cases h
    · cases h

theorem tysOk_ok {Γ : Ctx} {F : List Ex} (HΓ : Typed env Γ) (H : AllTrue env F) : ∀ {l : List Ex} {ts : List Ty}, tysOk Γ F l ts = true → TypedL ts (l.map (ev env))
  | [], [], _ => ⟨rfl, fun n t h => by simp at h⟩
  | x :: l, t :: ts, h => by
    simp only [tysOk, Bool.and_eq_true] at h
    obtain ⟨i1, i2⟩ := tysOk_ok HΓ H h.2
    refine ⟨by simp at i1 ⊢; exact i1, fun n t' hn => ?_⟩
    cases n with
    | zero =>
      simp at hn
      subst hn
      have h1 := h.1
      split at h1
      · rename_i t2 ht2
        have := ty_sound HΓ x F t2 H ht2
        simp only [Bool.or_eq_true, Bool.and_eq_true] at h1
        rcases h1 with h1 | h1
        · rw [Ty.beq_eq h1]; exact this
        · rw [Ty.beq_eq h1.1]; exact this.oneCell h1.2
      · cases h1
    | succ n =>
      simp at hn
      simpa using i2 n t' hn
  | [], _ :: _, h => by cases h
  | _ :: _, [], h => by cases h
end

section
variable {P : Program} {glb : List (Nat × List Sc)} {w0 : World} {fp : Fp} {env : List Value} {ρ : Nat → Nat} {S : St} {a : Act} {w : World}

/-- What a match at a call gives: the premises of the contract. -/
theorem Rel.given (R : Rel glb w0 fp env ρ S a w) {sig : Sig} {acts : List CV} {m : Mt} (h : mCall S sig acts = some m) :
    Given glb sig (m.μ.map ρ) (m.vs.map (ev env)) w ∧ sig.args.map (CV.val (at0 (m.μ.map ρ)) (m.vs.map (ev env))) = acts.map (CV.val ρ env) ∧ m.μ.Nodup ∧ m.μ.length = sig.pre.length ∧ (∀ id ∈ m.μ, alive S.H id = true) := by
  unfold mCall at h
  split at h
  · rename_i m1 h1
    split at h
    · rename_i m2 h2
      split at h
      · rename_i m3 h3
        split at h
        · rename_i hc
          simp only [Bool.and_eq_true] at hc
          cases h
          obtain ⟨a1, a2, a3⟩ := mCVs_ok (ρ := ρ) (env := env) h1
          obtain ⟨b1, b2, b3⟩ := mPre_ok (ρ := ρ) (env := env) h2
          obtain ⟨c1, c2, c3⟩ := mGh_ok (env := env) h3
          have hnd : m.μ.Nodup := by rw [c1]; exact b1 (a1 (by simp))
          have hlen := Nat.eq_of_beq_eq_true hc.1
          have hal : ∀ id ∈ m.μ, alive S.H id = true := by
            intro id hid
            obtain ⟨k, hk⟩ := List.getElem?_of_mem hid
            have hkl : k < sig.pre.length := by rw [← hlen]; exact (List.getElem?_eq_some_iff.1 hk).1
            obtain ⟨id', b', e1, e2, e3⟩ := b3 m c2 k _ (List.getElem?_eq_getElem hkl)
            simp only [Nat.zero_add] at e1
            rw [hk] at e1
            cases e1
            exact alive_of e2
          refine ⟨?_, a3 m (b2.le_trans c2), hnd, hlen, hal⟩
          refine
            { glob := fun g l hg => ⟨fun j s hs ρ' env' => ?_, fun ht => ?_⟩
              globbs := ?_
              len := by simp [hlen]
              nodup := ?_
              typed := tysOk_ok R.typed R.facts hc.2
              blk := ?_
              rows := ?_ }
          · have h1 := R.globfp g l hg
            have := (R.glob g l hg).1 j s hs ρ' env'
            rw [← this]
            simp only [World.cell?]
            rw [R.frame g h1.1 h1.2]
          · have h1 := R.globfp g l hg
            obtain ⟨arr, t, fr, e1, e2⟩ := (R.glob g l hg).2 ht
            exact ⟨arr, t, fr, by rw [R.frame g h1.1 h1.2]; exact e1, e2⟩
          · intro g l hg
            obtain ⟨h1, h2⟩ := R.globfp g l hg
            refine ⟨Nat.lt_of_lt_of_le h1 R.size, ?_⟩
            intro hmem
            obtain ⟨id, hid, he⟩ := List.mem_map.1 hmem
            rcases R.own id (hal id hid) with h | h
            · rw [he] at h; exact h2 h
            · omega
          · rw [List.nodup_iff_pairwise_ne, List.pairwise_map]
            exact (List.nodup_iff_pairwise_ne.1 hnd).imp_of_mem fun {x y} hx hy hne he => hne (R.inj x y (hal x hx) (hal y hy) he)
          · intro k b hb
            obtain ⟨id', b', e1, e2, e3⟩ := b3 m c2 k b hb
            simp only [Nat.zero_add] at e1
            rw [at0_map e1, e3]
            exact R.heap id' b' e2
          · intro x c n hx
            obtain ⟨xe, ce, e1, e2, e3⟩ := c3 m (Mt.le_refl _) x c n hx
            rw [e2, e3]
            obtain ⟨r1, r2⟩ := rowQ R.typed R.facts (Q := fun x c n => RowOk w x c n ∧ ∀ id, alive S.H id = true → Apart x c (ρ id)) (fun x c n h => R.rows x c n h)
              (fun x c n v s cc h hv e => by
                obtain ⟨i1, i2⟩ := h.1.inner hv e
                exact ⟨i1, fun id hid hb => h.2 id hid (i2 _ hb)⟩) e1
            refine ⟨r1, fun k hk => ?_⟩
            obtain ⟨id, hid, he⟩ := List.mem_map.1 hk
            rw [← he]
            exact r2 id (hal id hid)
        · cases h
      · cases h
    · cases h
  · cases h
end
end Go.Sx

/- The state after a call. -/
namespace Go.Sx
open Go

def instE (n : Nat) : Ex → Option Ex
  | .var i => some (.var (n + i))
  | .int k z => some (.int k z)
  | .bool b => some (.bool b)
  | .val v => some (.val v)
  | _ => none

def instCaps (μ : List Nat) : List (Nat × Nat) → Option (List (Nat × Nat))
  | [] => some []
  | (k, o) :: r => match μ[k]?, instCaps μ r with
    | some id, some l => some ((id, o) :: l)
    | _, _ => none

def instSc (n : Nat) (μ : List Nat) : Sc → Option Sc
  | .e x => match instE n x with
    | some y => some (.e y)
    | none => none
  | .p (.own k) o => match μ[k]? with
    | some id => some (.p (.own id) o)
    | none => none
  | .p (.glob g) o => some (.p (.glob g) o)
  | .sl (.own k) o l c => match μ[k]? with
    | some id => some (.sl (.own id) o l c)
    | none => none
  | .fn f caps => match instCaps μ caps with
    | some l => some (.fn f l)
    | none => none
  | _ => none

def instScs (n : Nat) (μ : List Nat) : List Sc → Option (List Sc)
  | [] => some []
  | s :: r => match instSc n μ s, instScs n μ r with
    | some a, some l => some (a :: l)
    | _, _ => none

def instCV (n : Nat) (μ : List Nat) : CV → Option CV
  | .s x => match instSc n μ x with
    | some y => some (.s y)
    | none => none
  | .ag l => match instScs n μ l with
    | some r => some (.ag r)
    | none => none

def instCVs (n : Nat) (μ : List Nat) : List CV → Option (List CV)
  | [] => some []
  | s :: r => match instCV n μ s, instCVs n μ r with
    | some a, some l => some (a :: l)
    | _, _ => none

def instSV (n : Nat) (μ : List Nat) : SV → Option SV
  | .c x => match instCV n μ x with
    | some y => some (.c y)
    | none => none
  | .tu l => match instCVs n μ l with
    | some r => some (.tu r)
    | none => none
  | _ => none

section
variable {μ : List Nat} {ρ' : Nat → Nat} {env outs : List Value} {bs' : List Nat}

theorem ev_var_app (env outs : List Value) (i : Nat) : ev (env ++ outs) (.var (env.length + i)) = outs.getD i undef := by
  simp only [ev, List.getD]
  rw [List.getElem?_append_right (Nat.le_add_right _ _), Nat.add_sub_cancel_left]

theorem instE_ev {x y : Ex} (h : instE env.length x = some y) : ev (env ++ outs) y = ev outs x := by
  unfold instE at h
  split at h <;> cases h <;> simp only [ev, List.getD]
  rw [List.getElem?_append_right (Nat.le_add_right _ _), Nat.add_sub_cancel_left]

theorem instCaps_ok (hμ : ∀ k id, μ[k]? = some id → ρ' id = at0 bs' k) : ∀ {l r : List (Nat × Nat)}, instCaps μ l = some r →
    r.map (fun c => Value.pointer (some ⟨ρ' c.1, c.2, none⟩)) = l.map fun c => Value.pointer (some ⟨at0 bs' c.1, c.2, none⟩)
  | [], r, h => by cases h; rfl
  | (k, o) :: l, r, h => by
    simp only [instCaps] at h
    split at h
    · rename_i id r' h1 h2
      cases h
      simp only [List.map_cons, hμ _ _ h1, instCaps_ok hμ h2]
    · cases h

theorem instSc_val (hμ : ∀ k id, μ[k]? = some id → ρ' id = at0 bs' k) {s r : Sc} (h : instSc env.length μ s = some r) : r.val ρ' (env ++ outs) = s.val (at0 bs') outs := by
  unfold instSc at h
  split at h
  · split at h
    · rename_i y hy; cases h; exact instE_ev hy
    · cases h
  · split at h
    · rename_i id hid; cases h; simp only [Sc.val, Bk.at, hμ _ _ hid]
    · cases h
  · cases h; rfl
  · split at h
    · rename_i id hid; cases h; simp only [Sc.val, Bk.at, hμ _ _ hid]
    · cases h
  · split at h
    · rename_i l hl; cases h; simp only [Sc.val, instCaps_ok hμ hl]
    · cases h
  · cases h

theorem instScs_val (hμ : ∀ k id, μ[k]? = some id → ρ' id = at0 bs' k) : ∀ {l r : List Sc}, instScs env.length μ l = some r → vals ρ' (env ++ outs) r = vals (at0 bs') outs l
  | [], r, h => by cases h; rfl
  | s :: l, r, h => by
    simp only [instScs] at h
    split at h
    · rename_i a l' h1 h2
      cases h
      have := instScs_val hμ h2
      simp only [vals] at this
      simp only [vals, List.map_cons, instSc_val hμ h1, this]
    · cases h

theorem instCV_val (hμ : ∀ k id, μ[k]? = some id → ρ' id = at0 bs' k) {s r : CV} (h : instCV env.length μ s = some r) : r.val ρ' (env ++ outs) = s.val (at0 bs') outs := by
  unfold instCV at h
  split at h <;> split at h
  · rename_i y hy; cases h; exact instSc_val hμ hy
  · cases h
  · rename_i y hy; cases h; simp only [CV.val, instScs_val hμ hy]
  · cases h

theorem instCVs_val (hμ : ∀ k id, μ[k]? = some id → ρ' id = at0 bs' k) : ∀ {l r : List CV}, instCVs env.length μ l = some r → r.map (CV.val ρ' (env ++ outs)) = l.map (CV.val (at0 bs') outs)
  | [], r, h => by cases h; rfl
  | s :: l, r, h => by
    simp only [instCVs] at h
    split at h
    · rename_i a l' h1 h2
      cases h
      simp only [List.map_cons, instCV_val hμ h1, instCVs_val hμ h2]
    · cases h

theorem instSV_is (hμ : ∀ k id, μ[k]? = some id → ρ' id = at0 bs' k) {s r : SV} (h : instSV env.length μ s = some r) {v : Value} (hv : s.is (at0 bs') outs v) : r.is ρ' (env ++ outs) v := by
  unfold instSV at h
  split at h
  · split at h
    · rename_i y hy; cases h; simp only [SV.is] at hv ⊢; rw [instCV_val hμ hy]; exact hv
    · cases h
  · split at h
    · rename_i y hy; cases h; simp only [SV.is] at hv ⊢; rw [instCVs_val hμ hy]; exact hv
    · cases h
  · cases h
end

/-- The blocks after a call. -/
def postH (n : Nat) (μ : List Nat) : List Blk → Nat → List Ht → Option (List Ht)
  | [], _, H => some H
  | b :: r, k, H => match μ[k]?, instScs n μ b.cells with
    | some id, some cs =>
      if Nat.ble (id + 1) H.length then postH n μ r (k + 1) (H.set id (.bl ⟨cs, b.ty⟩))
      else if Nat.beq id H.length then postH n μ r (k + 1) (H ++ [.bl ⟨cs, b.ty⟩]) else none
    | _, _ => none

theorem postH_spec {n : Nat} {μ : List Nat} (hnd : μ.Nodup) : ∀ {l : List Blk} {k : Nat} {H H' : List Ht}, postH n μ l k H = some H' →
    H.length ≤ H'.length ∧
    (∀ j b, l[j]? = some b → ∃ id cs, μ[k + j]? = some id ∧ instScs n μ b.cells = some cs ∧ hget H' id = some ⟨cs, b.ty⟩) ∧
    (∀ id, (∀ j, j < l.length → μ[k + j]? ≠ some id) → hat H' id = hat H id)
  | [], k, H, H', h => by cases h; exact ⟨Nat.le_refl _, fun j b hj => by simp at hj, fun _ _ => rfl⟩
  | b :: r, k, H, H', h => by
    simp only [postH] at h
    split at h
    · rename_i id cs hid hcs
      have hstep : ∃ H1, postH n μ r (k + 1) H1 = some H' ∧ H.length ≤ H1.length ∧ hget H1 id = some ⟨cs, b.ty⟩ ∧ ∀ i, i ≠ id → hat H1 i = hat H i := by
        split at h
        · rename_i hlt
          have hlt := Nat.le_of_ble_eq_true hlt
          refine ⟨_, h, by simp, ?_, ?_⟩
          · rw [hget_set _ _ _ hlt, if_pos rfl]
          · intro i hi; rw [hat_set _ _ _ hlt, if_neg hi]
        · split at h
          · rename_i he
            have he := Nat.eq_of_beq_eq_true he
            refine ⟨_, h, by simp, ?_, ?_⟩
            · rw [hget_push, if_pos he]
            · intro i hi; rw [hat_push, if_neg (by omega)]
          · cases h
      obtain ⟨H1, h1, h2, h3, h4⟩ := hstep
      obtain ⟨i1, i2, i3⟩ := postH_spec hnd h1
      have hne : ∀ j, j < r.length → μ[k + 1 + j]? ≠ some id := by
        intro j hj he
        have e1 := List.getElem?_eq_some_iff.1 hid
        have e2 := List.getElem?_eq_some_iff.1 he
        have := (List.nodup_iff_pairwise_ne.1 hnd)
        rw [List.pairwise_iff_getElem] at this
        have := this k (k + 1 + j) e1.1 e2.1 (by omega)
        rw [e1.2, e2.2] at this
        exact this rfl
      refine ⟨Nat.le_trans h2 i1, ?_, ?_⟩
      · intro j b' hj
        cases j with
        | zero =>
          simp at hj
          subst hj
          exact ⟨id, cs, hid, hcs, by rw [hget_hat (i3 id hne)]; exact h3⟩
        | succ j =>
          simp at hj
          obtain ⟨id', cs', e1, e2, e3⟩ := i2 j b' hj
          exact ⟨id', cs', by rw [show k + (j + 1) = k + 1 + j by omega]; exact e1, e2, e3⟩
      · intro i hi
        have h0 := hi 0 (by simp)
        rw [i3 i (fun j hj => by have := hi (j + 1) (by simp; omega); rwa [show k + (j + 1) = k + 1 + j by omega] at this)]
        exact h4 i (fun e => h0 (by rw [Nat.add_zero, hid, e]))
    · cases h

def upFrom (n : Nat) : Nat → List Nat
  | 0 => []
  | m + 1 => n :: upFrom (n + 1) m

theorem upFrom_get : ∀ (m n k : Nat), (upFrom n m)[k]? = if k < m then some (n + k) else none
  | 0, n, k => by simp [upFrom]
  | m + 1, n, 0 => by simp [upFrom]
  | m + 1, n, k + 1 => by
    simp only [upFrom, List.getElem?_cons_succ, upFrom_get m (n + 1) k]
    by_cases h : k < m
    · rw [if_pos h, if_pos (by omega)]; congr 1; omega
    · rw [if_neg h, if_neg (by omega)]
theorem upFrom_length : ∀ (m n : Nat), (upFrom n m).length = m
  | 0, _ => rfl
  | m + 1, n => by simp [upFrom, upFrom_length m]
theorem upFrom_mem : ∀ {m n k : Nat}, k ∈ upFrom n m → n ≤ k
  | 0, _, _, h => by cases h
  | m + 1, n, k, h => by
    cases h with
    | head => exact Nat.le_refl _
    | tail _ h => have := upFrom_mem h; omega
theorem upFrom_nodup : ∀ (m n : Nat), (upFrom n m).Nodup
  | 0, _ => List.nodup_nil
  | m + 1, n => by
    refine List.nodup_cons.2 ⟨fun h => ?_, upFrom_nodup m (n + 1)⟩
    have := upFrom_mem h; omega

def gInst (n : Nat) : List (Nat × Nat × Nat) → List (Ex × Ex × Nat)
  | [] => []
  | (x, c, k) :: r => (.var (n + x), .var (n + c), k) :: gInst n r
theorem gInst_mem {n : Nat} : ∀ {l : List (Nat × Nat × Nat)} {x c : Ex} {k : Nat}, (x, c, k) ∈ gInst n l → ∃ i j, (i, j, k) ∈ l ∧ x = .var (n + i) ∧ c = .var (n + j)
  | [], _, _, _, h => by cases h
  | (i, j, k') :: r, x, c, k, h => by
    simp only [gInst] at h
    rcases List.mem_cons.1 h with he | h
    · cases he; exact ⟨i, j, List.mem_cons_self, rfl, rfl⟩
    · obtain ⟨i', j', h1, h2⟩ := gInst_mem h
      exact ⟨i', j', List.mem_cons_of_mem _ h1, h2⟩

def postWf (al : Nat → Bool) (n n' : Nat) (μ : List Nat) : List Blk → Bool
  | [] => true
  | b :: r => (match instScs n μ b.cells with
    | some cs => scsWf al n' cs
    | none => false) && postWf al n n' μ r
theorem postWf_get {al : Nat → Bool} {n n' : Nat} {μ : List Nat} : ∀ {l : List Blk}, postWf al n n' μ l = true → ∀ b ∈ l, ∀ cs, instScs n μ b.cells = some cs → scsWf al n' cs = true
  | [], _, b, hb, _, _ => by cases hb
  | b :: r, h, b', hb', cs, hcs => by
    simp only [postWf, Bool.and_eq_true] at h
    rcases List.mem_cons.1 hb' with rfl | hb'
    · have h1 := h.1
      rw [hcs] at h1
      exact h1
    · exact postWf_get h.2 b' hb' cs hcs

def gOk (k : Nat) : List (Nat × Nat × Nat) → Bool
  | [] => true
  | (x, c, _) :: r => Nat.ble (x + 1) k && Nat.ble (c + 1) k && gOk k r
theorem gOk_mem {k : Nat} : ∀ {l : List (Nat × Nat × Nat)}, gOk k l = true → ∀ x c n, (x, c, n) ∈ l → x < k ∧ c < k
  | [], _, _, _, _, h => by cases h
  | (x', c', n') :: r, h, x, c, n, hm => by
    simp only [gOk, Bool.and_eq_true] at h
    rcases List.mem_cons.1 hm with he | hm
    · cases he; exact ⟨Nat.le_of_ble_eq_true h.1.1, Nat.le_of_ble_eq_true h.1.2⟩
    · exact gOk_mem h.2 x c n hm

/-- The slice that may be appended to after a call: the one that there was, or one that is handed over. -/
def owAfter (n : Nat) (sig : Sig) : Option Ow → Option Ow
  | some o => some o
  | none => match sig.gown with
    | some (x, c, k, e) => some ⟨.var (n + x), .var (n + c), k, e⟩
    | none => none
/-- The state after a call that is made. -/
def afterCall (S : St) (sig : Sig) (m : Mt) : Option (SV × St) :=
  let n := S.Γ.length
  let n' := n + sig.tout.length
  let μ := m.μ ++ upFrom S.H.length (sig.post.length - sig.pre.length)
  if Nat.ble sig.pre.length sig.post.length && gOk sig.tout.length sig.gout then
    match postH n μ sig.post 0 S.H, instSV n μ sig.res with
    | some H', some r =>
      if r.wf (alive H') n' && postWf (alive H') n n' μ sig.post && Nat.beq H'.length (S.H.length + (sig.post.length - sig.pre.length)) then
        some (r, { T := S.T, H := H', Γ := S.Γ ++ sig.tout.map fun t => (t, none), F := S.F, G := gInst n sig.gout ++ S.G, X := ⟨(sig.gout.map fun g => (.var (n + g.1), .var (n + g.2.1))) ++ S.X.fr, owAfter n sig S.X.ow⟩ })
      else none
    | _, _ => none
  else none

section
variable {P : Program} {glb : List (Nat × List Sc)} {w0 : World} {fp : Fp} {env : List Value} {ρ : Nat → Nat} {S : St} {a : Act} {w : World}

theorem Typed_append {Γ : Ctx} {outs : List Value} {ts : List Ty} {g : Option Ex} (h : Typed env Γ) (hg : ∀ (n : Nat) (t : Ty) (g : Ex), Γ[n]? = some (t, some g) → g.lt env.length = true)
    (ho : (∀ x, g = some x → ev (env ++ outs) x = .bool true) → ∀ n t, ts[n]? = some t → HasTy t (outs.getD n undef)) (hl : outs.length = ts.length) : Typed (env ++ outs) (Γ ++ ts.map fun t => (t, g)) := by
  refine ⟨by simp [h.1, hl], fun n t g' hn hx => ?_⟩
  rcases Nat.lt_or_ge n Γ.length with hlt | hge
  · rw [List.getElem?_append_left hlt] at hn
    have hne : n < env.length := by rw [h.1]; exact hlt
    have : (env ++ outs).getD n undef = env.getD n undef := by simp [List.getD, List.getElem?_append_left hne]
    rw [this]
    refine h.2 n t g' hn fun x hx' => ?_
    rw [← hx x hx']
    subst hx'
    exact (ev_append env outs x (hg n t x hn)).symm
  · rw [List.getElem?_append_right hge] at hn
    simp only [List.getElem?_map, Option.map_eq_some_iff] at hn
    obtain ⟨t', ht', he⟩ := hn
    cases he
    have : (env ++ outs).getD n undef = outs.getD (n - Γ.length) undef := by
      simp [List.getD, List.getElem?_append_right (show env.length ≤ n by rw [h.1]; exact hge), h.1]
    rw [this]
    exact ho hx _ _ ht'

/-- **The state after a call.** -/
theorem Rel.called (R : Rel glb w0 fp env ρ S a w) {sig : Sig} {m : Mt} {d : Option Nat} {r : SV} {S' : St} (hfp : fp.pn ≤ S.H.length)
    (hm : m.μ.Nodup) (hml : m.μ.length = sig.pre.length) (hma : ∀ id ∈ m.μ, alive S.H id = true)
    (hS : afterCall S sig m = some (r, S')) {K : List Value → Prop} {outs : List Value} {bs' : List Nat} {v : Value} {w' : World} (L : Left' sig (m.μ.map ρ) K w outs bs' v w') :
    ∃ ρ', Rel glb w0 fp (env ++ outs) ρ' { S' with T := putT S.T d r } (a.put d v) w' ∧ fp.pn ≤ S'.H.length ∧ (∀ k id, m.μ[k]? = some id → ρ' id = at0 bs' k) := by
  unfold afterCall at hS
  simp only at hS
  split at hS
  · rename_i hc
    simp only [Bool.and_eq_true] at hc
    have hple := Nat.le_of_ble_eq_true hc.1
    split at hS
    · rename_i H' r hH hr
      split at hS
      · rename_i hwf
        simp only [Bool.and_eq_true] at hwf
        obtain ⟨⟨wf1, wf2⟩, wf3⟩ := hwf
        have wf3 := Nat.eq_of_beq_eq_true wf3
        cases hS
        have hlenE : env.length = S.Γ.length := R.typed.1
        have hlt : ∀ id ∈ m.μ, id < S.H.length := fun id hid => alive_lt (hma id hid)
        let μ' := m.μ ++ upFrom S.H.length (sig.post.length - sig.pre.length)
        let ρ' : Nat → Nat := fun id => if id < S.H.length then ρ id else at0 bs' (sig.pre.length + (id - S.H.length))
        have hμnd : μ'.Nodup := by
          refine List.nodup_append.2 ⟨hm, upFrom_nodup _ _, ?_⟩
          intro x hx y hy e
          have := hlt x hx
          have := upFrom_mem hy
          omega
        have hμl : μ'.length = sig.post.length := by simp [μ', upFrom_length, hml]; omega
        have hμ : ∀ k id, μ'[k]? = some id → ρ' id = at0 bs' k := by
          intro k id hk
          rcases Nat.lt_or_ge k m.μ.length with hkl | hkl
          · rw [List.getElem?_append_left hkl] at hk
            have hid : id ∈ m.μ := List.mem_of_getElem? hk
            have : ρ' id = ρ id := by simp only [ρ']; rw [if_pos (hlt id hid)]
            rw [this, L.old k (by simp; exact hkl), at0_map hk]
          · rw [List.getElem?_append_right hkl, upFrom_get] at hk
            split at hk
            · cases hk
              simp only [ρ']
              rw [if_neg (by omega)]
              congr 1
              omega
            · cases hk
        have hold : ∀ id, id < S.H.length → ρ' id = ρ id := fun id h => by simp only [ρ']; rw [if_pos h]
        have hal : ∀ id, alive S.H id = true → ρ' id = ρ id := fun id h => hold id (alive_lt h)
        obtain ⟨p1, p2, p3⟩ := postH_spec hμnd hH
        have hkeep0 : ∀ id, id ∉ μ' → hat H' id = hat S.H id := fun id hid => p3 id (fun j _ he => hid (List.mem_of_getElem? he))
        have hkeep : ∀ id, id ∉ μ' → hget H' id = hget S.H id := fun id hid => hget_hat (hkeep0 id hid)
        have hin : ∀ id, id ∈ μ' → ∃ (k : Nat) (b : Blk) (cs : List Sc), sig.post[k]? = some b ∧ μ'[k]? = some id ∧ instScs S.Γ.length μ' b.cells = some cs ∧ hget H' id = some ⟨cs, b.ty⟩ := by
          intro id hid
          obtain ⟨k, hk⟩ := List.getElem?_of_mem hid
          have hkl : k < sig.post.length := by rw [← hμl]; exact (List.getElem?_eq_some_iff.1 hk).1
          obtain ⟨id', cs, e1, e2, e3⟩ := p2 k _ (List.getElem?_eq_getElem hkl)
          simp only [Nat.zero_add] at e1
          have : id' = id := by rw [show μ'[k]? = some id' from e1] at hk; cases hk; rfl
          subst this
          exact ⟨k, _, cs, List.getElem?_eq_getElem hkl, e1, e2, e3⟩
        have hup : ∀ id, alive S.H id = true → alive H' id = true := by
          intro id h
          by_cases hid : id ∈ μ'
          · obtain ⟨k, b, cs, _, _, _, e⟩ := hin id hid; exact alive_of e
          · rw [alive_hat (hkeep0 id hid)]; exact h
        have hdown : ∀ id, alive H' id = true → (alive S.H id = true ∧ id < S.H.length) ∨ (S.H.length ≤ id ∧ id < S.H.length + (sig.post.length - sig.pre.length)) := by
          intro id h
          have hl := alive_lt h
          rw [wf3] at hl
          rcases Nat.lt_or_ge id S.H.length with hlt' | hge
          · left
            refine ⟨?_, hlt'⟩
            by_cases hid : id ∈ μ'
            · rcases List.mem_append.1 hid with h1 | h1
              · exact hma id h1
              · have := upFrom_mem h1; omega
            · rw [alive_hat (hkeep0 id hid)] at h; exact h
          · exact .inr ⟨hge, hl⟩
        have hnewρ : ∀ id, S.H.length ≤ id → id < S.H.length + (sig.post.length - sig.pre.length) → ρ' id = at0 bs' (sig.pre.length + (id - S.H.length)) ∧ w.heap.size ≤ ρ' id := by
          intro id h1 h2
          have e : ρ' id = at0 bs' (sig.pre.length + (id - S.H.length)) := by simp only [ρ']; rw [if_neg (by omega)]
          refine ⟨e, ?_⟩
          rw [e]
          exact L.new _ (by simp [hml]) (by rw [L.len]; omega)
        have hnotbs : ∀ id, alive S.H id = true → id ∉ m.μ → ρ id ∉ m.μ.map ρ := by
          intro id h hid hmem
          obtain ⟨id', h1, h2⟩ := List.mem_map.1 hmem
          exact hid (by rw [← R.inj id' id (hma id' h1) h h2]; exact h1)
        have hTy : Typed (env ++ outs) (S.Γ ++ sig.tout.map fun t => (t, none)) := Typed_append R.typed R.wfΓ (fun _ => L.typed.2) L.typed.1
        have hn' : (env ++ outs).length = S.Γ.length + sig.tout.length := by simp [hlenE, L.typed.1]
        refine ⟨ρ', ?_, by simp only; omega, fun k id hk => hμ k id (by rw [List.getElem?_append_left (List.getElem?_eq_some_iff.1 hk).1]; exact hk)⟩
        have hT : TRel ρ' (env ++ outs) S.T a := ⟨R.tmps.1, fun t => (SV.is_ext (Nat.le_refl _) hal (R.wfT t)).2 (R.tmps.2 t)⟩
        refine
          { tmps := TRel.put (S := { S with H := H' }) hT ?_
            defers := by cases d <;> exact R.defers
            typed := hTy
            facts := fun x hx => by rw [ev_append env outs x (R.wfF x hx)]; exact R.facts x hx
            heap := ?_
            inj := ?_
            own := ?_
            lt := ?_
            fpr := fun k hk => by rw [hold k (by omega)]; exact R.fpr k hk
            rows := ?_
            glob := R.glob
            globfp := R.globfp
            os := L.os.trans R.os
            tape := L.tape.trans R.tape
            output := L.output.trans R.output
            size := Nat.le_trans R.size L.size
            frame := ?_
            wfT := ?_
            wfH := ?_
            wfF := fun x hx => Ex.lt_mono (by simp) (R.wfF x hx)
            wfG := ?_
            wfΓ := ?_
            ox := ?_ }
        · rw [← hlenE] at hr
          exact instSV_is hμ hr L.res
        · intro id b hb
          by_cases hid : id ∈ μ'
          · obtain ⟨k, b0, cs, e1, e2, e3, e4⟩ := hin id hid
            rw [e4] at hb
            cases hb
            rw [hμ k id e2, L.blk k b0 e1]
            rw [← hlenE] at e3
            simp only [Blk.obj, instScs_val hμ e3]
          · rw [hkeep id hid] at hb
            have ha := alive_of hb
            have hnm : id ∉ m.μ := fun h => hid (List.mem_append_left _ h)
            rw [hal id ha, L.frame _ (R.lt _ ha) (hnotbs id ha hnm), R.heap id b hb, Blk.obj_ext (Nat.le_refl _) hal (R.wfH id b hb)]
        · intro i j hi hj he
          rcases hdown i hi with ⟨hi1, hi2⟩ | ⟨hi1, hi2⟩ <;> rcases hdown j hj with ⟨hj1, hj2⟩ | ⟨hj1, hj2⟩
          · rw [hal i hi1, hal j hj1] at he; exact R.inj i j hi1 hj1 he
          · rw [hal i hi1] at he; have := (hnewρ j hj1 hj2).2; have := R.lt _ hi1; omega
          · rw [hal j hj1] at he; have := (hnewρ i hi1 hi2).2; have := R.lt _ hj1; omega
          · rw [(hnewρ i hi1 hi2).1, (hnewρ j hj1 hj2).1] at he
            have hb1 : sig.pre.length + (i - S.H.length) < bs'.length := by rw [L.len]; omega
            have hb2 : sig.pre.length + (j - S.H.length) < bs'.length := by rw [L.len]; omega
            simp only [at0, List.getD, List.getElem?_eq_getElem hb1, List.getElem?_eq_getElem hb2, Option.getD_some] at he
            have := (List.getElem_inj L.nodup).1 he
            omega
        · intro id hid
          rcases hdown id hid with ⟨h1, h2⟩ | ⟨h1, h2⟩
          · rw [hal id h1]; exact R.own id h1
          · exact .inr (Nat.le_trans R.size (hnewρ id h1 h2).2)
        · intro id hid
          by_cases hmu : id ∈ μ'
          · obtain ⟨k, b0, cs, e1, e2, e3, e4⟩ := hin id hmu
            rw [hμ k id e2]
            exact (Array.getElem?_eq_some_iff.1 (L.blk k b0 e1)).1
          · rw [alive_hat (hkeep0 id hmu)] at hid
            rw [hal id hid]
            exact Nat.lt_of_lt_of_le (R.lt id hid) L.size
        · intro x c n hx
          rcases List.mem_append.1 hx with hx | hx
          · obtain ⟨i, j, h1, rfl, rfl⟩ := gInst_mem hx
            obtain ⟨r1, r2⟩ := L.rows i j n h1
            have e1 : ev (env ++ outs) (.var (S.Γ.length + i)) = outs.getD i undef := by rw [← hlenE]; exact ev_var_app env outs i
            have e2 : ev (env ++ outs) (.var (S.Γ.length + j)) = outs.getD j undef := by rw [← hlenE]; exact ev_var_app env outs j
            rw [e1, e2]
            refine ⟨r1, fun id hid hb => ?_⟩
            obtain ⟨q1, q2⟩ := r2 _ hb
            rcases hdown id hid with ⟨h1', h2'⟩ | ⟨h1', h2'⟩
            · rw [hal id h1'] at q1; have := R.lt _ h1'; omega
            · apply q2
              rw [(hnewρ id h1' h2').1]
              have hb1 : sig.pre.length + (id - S.H.length) < bs'.length := by rw [L.len]; omega
              simp only [at0, List.getD, List.getElem?_eq_getElem hb1, Option.getD_some]
              exact List.getElem_mem hb1
          · obtain ⟨r1, r2⟩ := R.rows x c n hx
            obtain ⟨g1, g2⟩ := R.wfG x c n hx
            rw [ev_append env outs x g1, ev_append env outs c g2]
            refine ⟨r1.keep L.size ?_, fun id hid => ?_⟩
            · intro k hb
              refine L.frame _ (r1.block hb) ?_
              intro hmem
              obtain ⟨id, h1, h2⟩ := List.mem_map.1 hmem
              exact r2 id (hma id h1) (by rw [h2]; exact hb)
            · rcases hdown id hid with ⟨h1', h2'⟩ | ⟨h1', h2'⟩
              · rw [hal id h1']; exact r2 id h1'
              · intro hb
                have := r1.block hb
                have := (hnewρ id h1' h2').2
                omega
        · intro k hk hkf
          rw [L.frame k (Nat.lt_of_lt_of_le hk R.size) ?_]
          · exact R.frame k hk hkf
          · intro hmem
            obtain ⟨id, h1, h2⟩ := List.mem_map.1 hmem
            rcases R.own id (hma id h1) with h | h
            · rw [h2] at h; exact hkf h
            · omega
        · rw [hn']
          exact putT_wf (fun t => SV.wf_mono hup (by rw [hlenE]; omega) (R.wfT t)) wf1
        · intro id b hb
          rw [hn']
          by_cases hid : id ∈ μ'
          · obtain ⟨k, b0, cs, e1, e2, e3, e4⟩ := hin id hid
            rw [e4] at hb
            cases hb
            exact postWf_get wf2 b0 (List.mem_of_getElem? e1) cs e3
          · rw [hkeep id hid] at hb
            exact scsWf_mono hup (by rw [hlenE]; omega) (R.wfH id b hb)
        · intro x c n hx
          rw [hn']
          rcases List.mem_append.1 hx with hx | hx
          · obtain ⟨i, j, h1, rfl, rfl⟩ := gInst_mem hx
            obtain ⟨q1, q2⟩ := gOk_mem hc.2 i j n h1
            exact ⟨Nat.ble_eq_true_of_le (by omega), Nat.ble_eq_true_of_le (by omega)⟩
          · obtain ⟨g1, g2⟩ := R.wfG x c n hx
            exact ⟨Ex.lt_mono (by rw [hlenE]; omega) g1, Ex.lt_mono (by rw [hlenE]; omega) g2⟩
        · intro n t g hn
          rcases Nat.lt_or_ge n S.Γ.length with hlt' | hge
          · rw [List.getElem?_append_left hlt'] at hn
            exact Ex.lt_mono (by simp) (R.wfΓ n t g hn)
          · rw [List.getElem?_append_right hge] at hn
            simp at hn
        · have h0 := R.ox.mono (env' := env ++ outs) (ρ' := ρ') (al' := alive H') (G' := gInst S.Γ.length sig.gout ++ S.G) (w' := w') (fun x hx => ⟨ev_append env outs x hx, Ex.lt_mono (by simp) hx⟩)
            (fun k _ hk hn => L.frame k hk (fun hmem => by
              obtain ⟨id, h1, h2⟩ := List.mem_map.1 hmem
              exact hn id (hma id h1) h2))
            (fun k _ hk hn id hid => by
              rcases hdown id hid with ⟨h1, h2⟩ | ⟨h1, h2⟩
              · rw [hal id h1]; exact hn id h1
              · have := (hnewρ id h1 h2).2; omega)
            (fun x c n hx => by
              rcases List.mem_append.1 hx with hx | hx
              · right
                obtain ⟨i, j, h1, rfl, rfl⟩ := gInst_mem hx
                have e1 : ev (env ++ outs) (.var (S.Γ.length + i)) = outs.getD i undef := by rw [← hlenE]; exact ev_var_app env outs i
                have e2 : ev (env ++ outs) (.var (S.Γ.length + j)) = outs.getD j undef := by rw [← hlenE]; exact ev_var_app env outs j
                rw [e1, e2]
                intro k hb
                exact ((L.rows i j n h1).2 k hb).1
              · left
                exact ⟨hx, ev_append env outs x (R.wfG x c n hx).1, ev_append env outs c (R.wfG x c n hx).2⟩)
          refine ⟨fun x hx => ?_, fun o ho => ?_⟩
          rotate_left
          · dsimp only at ho
            unfold owAfter at ho
            split at ho
            · rename_i o' ho'
              cases ho
              exact h0.owned o ho'
            · split at ho
              · rename_i x c k e hgw
                cases ho
                obtain ⟨hgm, len, xs, ha, hb, hcc⟩ := L.owns x c k e hgw
                obtain ⟨q1, q2⟩ := gOk_mem hc.2 x c k hgm
                have e1 : ∀ i, ev (env ++ outs) (.var (S.Γ.length + i)) = outs.getD i undef := fun i => by rw [← hlenE]; exact ev_var_app env outs i
                refine ⟨by rw [hn']; exact Nat.ble_eq_true_of_le (by omega), by rw [hn']; exact Nat.ble_eq_true_of_le (by omega), len, xs, by dsimp only; rw [e1]; exact ha, by dsimp only; rw [e1]; exact ownsRow_base hb R.size, fun k' hk' => ?_⟩
                dsimp only at hk'
                rw [e1] at hk'
                obtain ⟨hc1, hc2⟩ := hcc k' hk'
                have hge : w.heap.size ≤ k' := (hb.lt k' hk').1
                refine ⟨fun id hid hbad => ?_, fun x' c' n' hx' => ?_⟩
                · rcases hdown id hid with ⟨h1', h2'⟩ | ⟨h1', h2'⟩
                  · rw [hal id h1'] at hbad; have := R.lt _ h1'; omega
                  · apply hc1
                    rw [← hbad, (hnewρ id h1' h2').1]
                    have hb1 : sig.pre.length + (id - S.H.length) < bs'.length := by rw [L.len]; omega
                    simp only [at0, List.getD, List.getElem?_eq_getElem hb1, Option.getD_some]
                    exact List.getElem_mem hb1
                · rcases List.mem_append.1 hx' with hx' | hx'
                  · obtain ⟨i, j, h1, rfl, rfl⟩ := gInst_mem hx'
                    rw [e1, e1]
                    exact hc2 i j n' h1
                  · obtain ⟨g1, g2⟩ := R.wfG x' c' n' hx'
                    rw [ev_append env outs x' g1, ev_append env outs c' g2]
                    have hr := (R.rows x' c' n' hx').1
                    refine ⟨fun a' len' cap' ea eb => ?_, fun eb => ?_⟩
                    · have := hr.block (.inl ⟨a', len', cap', ea, eb⟩); omega
                    · have := hr.block (.inr eb); omega
              · cases ho
          rcases List.mem_append.1 hx with hx | hx
          · obtain ⟨⟨i, j, n⟩, h1, rfl⟩ := List.mem_map.1 hx
            have e1 : ev (env ++ outs) (.var (S.Γ.length + i)) = outs.getD i undef := by rw [← hlenE]; exact ev_var_app env outs i
            have e2 : ev (env ++ outs) (.var (S.Γ.length + j)) = outs.getD j undef := by rw [← hlenE]; exact ev_var_app env outs j
            obtain ⟨q1, q2⟩ := gOk_mem hc.2 i j n h1
            refine ⟨⟨by rw [hn']; exact Nat.ble_eq_true_of_le (by dsimp only; omega), by rw [hn']; exact Nat.ble_eq_true_of_le (by dsimp only; omega)⟩, fun k hb => ?_⟩
            dsimp only at hb
            rw [e1, e2] at hb
            exact Nat.le_trans R.size ((L.rows i j n h1).2 k hb).1
          · exact h0.fresh x hx
      · cases hS
    · cases hS
  · cases hS

theorem afterCall_keep {sig : Sig} {m : Mt} {r : SV} {S' : St} (hm : m.μ.Nodup) (hpp : sig.pre.length = sig.post.length) (hml : m.μ.length = sig.pre.length)
    (hS : afterCall S sig m = some (r, S')) : (∀ id, id ∉ m.μ → hat S'.H id = hat S.H id) ∧ (∀ id ∈ m.μ, ∃ b, hget S'.H id = some b) ∧ S'.H.length = S.H.length ∧ S'.Γ = S.Γ ++ sig.tout.map (fun t => (t, none)) ∧ S'.T = S.T ∧ S'.F = S.F ∧ (sig.gout = [] → sig.gown = none → S'.G = S.G ∧ S'.X = S.X) := by
  unfold afterCall at hS
  simp only [hpp, Nat.sub_self, upFrom, List.append_nil] at hS
  split at hS
  · split at hS
    · rename_i H' r hH hr
      split at hS
      · rename_i hwf
        simp only [Bool.and_eq_true] at hwf
        cases hS
        obtain ⟨p1, p2, p3⟩ := postH_spec hm hH
        refine ⟨fun id hid => p3 id (fun j _ he => hid (List.mem_of_getElem? he)), ?_, ?_, rfl, rfl, rfl, fun hg hgw => by
          obtain ⟨T, H, Γ, F, G, ⟨fr, ow⟩⟩ := S
          cases ow <;> simp only [hg, hgw, owAfter, gInst, List.nil_append, List.map_nil, and_self]⟩
        · intro id hid
          obtain ⟨k, hk⟩ := List.getElem?_of_mem hid
          have hkl : k < sig.post.length := by rw [← hpp, ← hml]; exact (List.getElem?_eq_some_iff.1 hk).1
          obtain ⟨id', cs, e1, e2, e3⟩ := p2 k _ (List.getElem?_eq_getElem hkl)
          simp only [Nat.zero_add] at e1
          rw [hk] at e1
          cases e1
          exact ⟨_, e3⟩
        · have := Nat.eq_of_beq_eq_true hwf.2
          simpa using this
      · cases hS
    · cases hS
  · cases hS
end
end Go.Sx

/- One operation of a region, guarded or not: its certificate, and what it does to the state. -/
namespace Go.Sx
open Go

/-! float operations whose result the model may leave open -/
inductive Pr
  | fa (op : BinOp) (k : FloatKind)
  | ca (op : BinOp) (k : FloatKind)
  | ff (src dst : FloatKind)
  | cc (src dst : FloatKind)

def Pr.sem : Pr → List Value → Sem Value
  | .fa op k, [.float _ a, .float _ b] => Op.floatArith op k a b
  | .ca op k, [.complex _ a b, .complex _ c d] => Op.complexOp op k a b c d
  | .ff s t, [.float _ a] => Conv.floatToFloat s a t
  | .cc s t, [.complex _ a b] => Conv.complexToComplex s a b t
  | _, _ => stuck ""
def Pr.out : Pr → Ty
  | .fa _ k => .flt k
  | .ca _ k => .cpx k
  | .ff _ t => .flt t
  | .cc _ t => .cpx t

/-- What such an operation may give. -/
def Pr.may (P : Program) (p : Pr) (ins : List Value) (v : Value) : Prop := ∃ w w', (p.sem ins).run P w = .ok v w'

/-- What is appended. -/
inductive Src
  | cells (l : List Ex)
  | row (c : Ex)
def Src.vals (env : List Value) : Src → List Value
  | .cells l => l.map (ev env)
  | .row c => (ev env c).cells.toList

inductive Evn
  | need (nd : List Ex)
  | call (k : Nat) (ins : List Ex) (g : Option Ex) (n : Nat)
  | prim (p : Pr) (ins : List Ex)
  | app (c : Ex) (n : Nat) (src : Src)

inductive Gd
  | yes
  | no
  | may (g : Ex)
  | bad

def dstOf (ops : Array Oper) (j : Nat) : Option Nat :=
  match ops.toList[j]? with
  | some o => o.dst
  | none => none

def gdSV (Γ : Ctx) (F : List Ex) (want : Bool) : SV → Gd
  | .tu _ => .no
  | .c (.s (.e (.bool b))) => if b == want then .yes else .no
  | .c (.s (.e x)) => if isBool (ty Γ F x) then .may (if want then x else .not x) else .bad
  | .opt g0 (.s (.e x)) => if isBool (ty Γ (g0 :: F) x) then .may (.ite g0 (if want then x else .not x) (.bool false)) else .bad
  | _ => .bad

def gdF (Γ : Ctx) (F : List Ex) (ops : Array Oper) (o : Oper) (f : Operand → SV) : Gd :=
  match o.guard with
  | none => .yes
  | some (j, want) => match dstOf ops j with
    | none => .no
    | some t => gdSV Γ F want (f (.tmp t))

theorem toB_true {v : Value} : toB v = true ↔ v = .bool true := by
  cases v <;> simp [toB]

def hypsOf : Ex → List Ex
  | .ite a b (.bool false) => hypsOf a ++ hypsOf b ++ [.ite a b (.bool false)]
  | g => [g]

theorem hypsOf_true {env : List Value} : ∀ {g : Ex}, ev env g = .bool true → AllTrue env (hypsOf g) := by
  intro g
  induction g with
  | ite a b c iha ihb _ =>
    intro h
    by_cases hc : c = .bool false
    · subst hc
      simp only [hypsOf]
      simp only [ev] at h
      by_cases ha : toB (ev env a) = true
      · rw [if_pos ha] at h
        intro x hx
        simp only [List.mem_append, List.mem_singleton] at hx
        rcases hx with (hx | hx) | rfl
        · exact iha (toB_true.1 ha) x hx
        · exact ihb h x hx
        · simp only [ev, ha, if_true, h]
      · rw [if_neg ha] at h; cases h
    · intro x hx
      have : hypsOf (.ite a b c) = [.ite a b c] := by
        unfold hypsOf
        split
        · rename_i e; cases e; exact absurd rfl hc
        · rfl
      rw [this, List.mem_singleton] at hx
      rw [hx]; exact h
  | _ => intro h x hx; simp only [hypsOf, List.mem_singleton] at hx; rw [hx]; exact h

section
variable {P : Program} {glb : List (Nat × List Sc)} {w0 : World} {fp : Fp} {env : List Value} {ρ : Nat → Nat} {S : St} {a : Act} {w : World}

theorem yielded_eq {ops : Array Oper} {j : Nat} {tmps : Array Value} : yielded ops tmps j = match (dstOf ops j).bind (tmps[·]?) with
    | some (.bool b) => some b
    | _ => none := by
  unfold yielded dstOf
  have : ops[j]? = ops.toList[j]? := by simp
  rw [this]
  cases ops.toList[j]? <;> rfl

theorem tmps_get (R : TRel ρ env S.T a) {t : Nat} {v : Value} (h : a.tmps[t]? = some v) : (S.T.getD t .unk).is ρ env v := by
  have := R.2 t
  rw [Array.getD_eq_getD_getElem?, h] at this
  exact this

theorem tmps_none (R : TRel ρ env S.T a) {t : Nat} (h : a.tmps[t]? = none) : S.T.getD t .unk = .unk := by
  have : S.T.length ≤ t := by rw [← R.1]; simpa using h
  simp [List.getD, List.getElem?_eq_none this]

def isYes (v : Value) (want : Bool) : Bool := (match v with
  | .bool b => some b
  | _ => none) == some want

theorem gdSV_yes {Γ : Ctx} {F : List Ex} {want : Bool} {sv : SV} {v : Value} (hv : sv.is ρ env v) (h : gdSV Γ F want sv = .yes) : isYes v want = true := by
  unfold gdSV at h
  split at h
  · cases h
  · rename_i b
    split at h
    · rename_i hb
      simp only [SV.is, CV.val, Sc.val, ev] at hv
      rw [hv]; simp at hb; simp [isYes, hb]
    · cases h
  · split at h <;> cases h
  · split at h <;> cases h
  · cases h

theorem gdSV_no {Γ : Ctx} {F : List Ex} {want : Bool} {sv : SV} {v : Value} (hv : sv.is ρ env v) (h : gdSV Γ F want sv = .no) : isYes v want = false := by
  unfold gdSV at h
  split at h
  · simp only [SV.is] at hv; rw [hv]; rfl
  · rename_i b
    split at h
    · cases h
    · rename_i hb
      simp only [SV.is, CV.val, Sc.val, ev] at hv
      rw [hv]; simp at hb; simp [isYes, hb]
  · split at h <;> cases h
  · split at h <;> cases h
  · cases h

theorem gdSV_may (HΓ : Typed env S.Γ) (HF : AllTrue env S.F) {want : Bool} {sv : SV} {v : Value} {g : Ex} (hv : sv.is ρ env v) (h : gdSV S.Γ S.F want sv = .may g) : isYes v want = toB (ev env g) := by
  unfold gdSV at h
  split at h
  · cases h
  · split at h <;> cases h
  · rename_i x _
    simp only [SV.is, CV.val, Sc.val] at hv
    split at h
    · rename_i hb
      cases h
      obtain ⟨b, hb⟩ := ty_sound HΓ x _ _ HF (isBool_eq hb)
      rw [hv, hb]
      cases want <;> cases b <;> simp [ev, hb, isYes]
    · cases h
  · rename_i g0 x
    simp only [SV.is, CV.val, Sc.val] at hv
    split at h
    · rename_i hb
      cases h
      by_cases hg0 : toB (ev env g0) = true
      · rw [if_pos hg0] at hv
        obtain ⟨b, hb⟩ := ty_sound HΓ x (g0 :: S.F) _ (by
          intro y hy
          cases hy with
          | head => exact toB_true.1 hg0
          | tail _ hy => exact HF y hy) (isBool_eq hb)
        rw [hv, hb]
        simp only [ev, hg0, if_true]
        cases want <;> cases b <;> simp [ev, hb, isYes]
      · rw [if_neg hg0] at hv
        rw [hv]
        simp only [ev, if_neg hg0, toB_bool]
        rfl
    · cases h
  · cases h

theorem wanted_eq {ops : Array Oper} {o : Oper} {a : Act} : Region.wanted o (yielded ops a.tmps) = match o.guard with
    | none => true
    | some (j, want) => match dstOf ops j with
      | none => false
      | some t => isYes (a.eval (.tmp t)) want := by
  unfold Region.wanted
  cases hg : o.guard with
  | none => rfl
  | some jw =>
    obtain ⟨j, want⟩ := jw
    simp only
    rw [yielded_eq]
    cases hd : dstOf ops j with
    | none => rfl
    | some t =>
      have he : a.eval (.tmp t) = a.tmps.getD t undef := rfl
      simp only [he, Option.bind_some, isYes, Array.getD_eq_getD_getElem?]
      cases ht : a.tmps[t]? with
      | none => rfl
      | some v => cases v <;> rfl

variable {Γ : Ctx} {F : List Ex} {f : Operand → SV}

theorem gdF_yes (hf : ∀ x, (f x).is ρ env (a.eval x)) {ops : Array Oper} {o : Oper} (h : gdF Γ F ops o f = .yes) : Region.wanted o (yielded ops a.tmps) = true := by
  rw [wanted_eq]
  unfold gdF at h
  cases hg : o.guard with
  | none => rfl
  | some jw =>
    obtain ⟨j, want⟩ := jw
    rw [hg] at h
    simp only at h ⊢
    cases hd : dstOf ops j with
    | none => rw [hd] at h; cases h
    | some t => rw [hd] at h; exact gdSV_yes (hf (.tmp t)) h

theorem gdF_no (hf : ∀ x, (f x).is ρ env (a.eval x)) {ops : Array Oper} {o : Oper} (h : gdF Γ F ops o f = .no) : Region.wanted o (yielded ops a.tmps) = false := by
  rw [wanted_eq]
  unfold gdF at h
  cases hg : o.guard with
  | none => rw [hg] at h; cases h
  | some jw =>
    obtain ⟨j, want⟩ := jw
    rw [hg] at h
    simp only at h ⊢
    cases hd : dstOf ops j with
    | none => rfl
    | some t => rw [hd] at h; exact gdSV_no (hf (.tmp t)) h

theorem gdF_may (HΓ : Typed env Γ) (HF : AllTrue env F) (hf : ∀ x, (f x).is ρ env (a.eval x)) {ops : Array Oper} {o : Oper} {g : Ex} (h : gdF Γ F ops o f = .may g) : Region.wanted o (yielded ops a.tmps) = toB (ev env g) := by
  rw [wanted_eq]
  unfold gdF at h
  cases hg : o.guard with
  | none => rw [hg] at h; cases h
  | some jw =>
    obtain ⟨j, want⟩ := jw
    rw [hg] at h
    simp only at h ⊢
    cases hd : dstOf ops j with
    | none => rw [hd] at h; cases h
    | some t => rw [hd] at h; exact gdSV_may (S := { T := [], H := [], Γ := Γ, F := F, G := [] }) HΓ HF (hf (.tmp t)) h

/-! the state, said otherwise -/
theorem Rel.conv (R : Rel glb w0 fp env ρ S a w) {S2 : St} (hal : ∀ id, alive S2.H id = true → alive S.H id = true) (hlen : S2.T.length = S.T.length) (hT : ∀ t v, (S.T.getD t .unk).is ρ env v → (S2.T.getD t .unk).is ρ env v)
    (hH : ∀ id b2, hget S2.H id = some b2 → ∃ b1, hget S.H id = some b1 ∧ b2.obj ρ env = b1.obj ρ env) (hΓ : Typed env S2.Γ) (hF : AllTrue env S2.F) (hG : ∀ p ∈ S2.G, p ∈ S.G)
    (wfT : ∀ t, (S2.T.getD t .unk).wf (alive S2.H) env.length = true) (wfH : ∀ id b, hget S2.H id = some b → scsWf (alive S2.H) env.length b.cells = true)
    (wfF : ∀ x ∈ S2.F, x.lt env.length = true) (wfΓ : ∀ (n : Nat) (t : Ty) (g : Ex), S2.Γ[n]? = some (t, some g) → g.lt env.length = true) (hX : S2.X = S.X) : Rel glb w0 fp env ρ S2 a w := by
  exact
    { tmps := ⟨by rw [hlen]; exact R.tmps.1, fun t => hT t _ (R.tmps.2 t)⟩
      defers := R.defers
      typed := hΓ
      facts := hF
      heap := fun id b2 h => by obtain ⟨b1, h1, h2⟩ := hH id b2 h; rw [h2]; exact R.heap id b1 h1
      inj := fun i j hi hj => R.inj i j (hal i hi) (hal j hj)
      own := fun id h => R.own id (hal id h)
      fpr := R.fpr
      lt := fun id h => R.lt id (hal id h)
      rows := fun x c n h => ⟨(R.rows x c n (hG _ h)).1, fun id hid => (R.rows x c n (hG _ h)).2 id (hal id hid)⟩
      glob := R.glob
      globfp := R.globfp
      os := R.os
      tape := R.tape
      output := R.output
      size := R.size
      frame := R.frame
      wfT := wfT
      wfH := wfH
      wfF := wfF
      wfG := fun x c n h => R.wfG x c n (hG _ h)
      wfΓ := wfΓ
      ox := by rw [hX]; exact R.ox.mono (fun x hx => ⟨rfl, hx⟩) (fun _ _ _ _ => rfl) (fun k _ _ hn id hid => hn id (hal id hid)) (fun x c n hx => .inl ⟨hG _ hx, rfl, rfl⟩) }

/-- More variables, the same state. -/
theorem Rel.more (R : Rel glb w0 fp env ρ S a w) {outs : List Value} {Γ' : Ctx} (hΓ : Typed (env ++ outs) Γ') (wfΓ : ∀ (n : Nat) (t : Ty) (g : Ex), Γ'[n]? = some (t, some g) → g.lt (env ++ outs).length = true) :
    Rel glb w0 fp (env ++ outs) ρ { S with Γ := Γ' } a w :=
  { R with
    tmps := ⟨R.tmps.1, fun t => (SV.is_ext (Nat.le_refl _) (fun _ _ => rfl) (R.wfT t)).2 (R.tmps.2 t)⟩
    typed := hΓ
    facts := fun x hx => by rw [ev_append env outs x (R.wfF x hx)]; exact R.facts x hx
    heap := fun id b h => by rw [Blk.obj_ext (Nat.le_refl _) (fun _ _ => rfl) (R.wfH id b h)]; exact R.heap id b h
    rows := fun x c n h => by
      obtain ⟨g1, g2⟩ := R.wfG x c n h
      rw [ev_append env outs x g1, ev_append env outs c g2]
      exact R.rows x c n h
    wfT := fun t => SV.wf_mono (fun _ h => h) (by simp) (R.wfT t)
    wfH := fun id b h => scsWf_mono (fun _ h => h) (by simp) (R.wfH id b h)
    wfF := fun x hx => Ex.lt_mono (by simp) (R.wfF x hx)
    wfG := fun x c n h => ⟨Ex.lt_mono (by simp) (R.wfG x c n h).1, Ex.lt_mono (by simp) (R.wfG x c n h).2⟩
    wfΓ := wfΓ
    ox := R.ox.mono (fun x hx => ⟨ev_append env outs x hx, Ex.lt_mono (by simp) hx⟩) (fun _ _ _ _ => rfl) (fun _ _ _ hn => hn) (fun x c n hx => .inl ⟨hx, ev_append env outs x (R.wfG x c n hx).1, ev_append env outs c (R.wfG x c n hx).2⟩) }

/-- Another world of the same memory. -/
theorem Rel.world (R : Rel glb w0 fp env ρ S a w) {w' : World} (hh : w'.heap = w.heap) (h1 : w'.os = w.os) (h2 : w'.tape = w.tape) (h3 : w'.output = w.output) : Rel glb w0 fp env ρ S a w' :=
  { R with
    heap := by rw [hh]; exact R.heap
    lt := by rw [hh]; exact R.lt
    rows := fun x c n h => ⟨(R.rows x c n h).1.keep (by rw [hh]; exact Nat.le_refl _) (fun _ _ => by rw [hh]), (R.rows x c n h).2⟩
    os := h1.trans R.os
    tape := h2.trans R.tape
    output := h3.trans R.output
    size := by rw [hh]; exact R.size
    frame := by rw [hh]; exact R.frame
    ox := R.ox.mono (fun x hx => ⟨rfl, hx⟩) (fun _ _ _ _ => by rw [hh]) (fun _ _ _ hn => hn) (fun x c n hx => .inl ⟨hx, rfl, rfl⟩) }
end
end Go.Sx

/- One operation of a region, in the text's order. -/
namespace Go.Sx
open Go

structure Cfg where
  P : Program
  glb : List (Nat × List Sc)
  sigs : List (Nat × Sig)

def Enters (P : Program) (f : Nat) : Prop := ∀ args w, (callFunc f args).run P w = .ok (.enter f args) w

def ΩOK (cf : Cfg) (specs : List Spec) : Prop :=
  ∀ (k f : Nat) (sig : Sig), cf.sigs[k]? = some (f, sig) → ∃ sp, specs[k]? = some sp ∧ ConOK cf.P cf.glb f sig sp ∧ Enters cf.P f

def evSat (P : Program) (specs : List Spec) : List Evn → List Value → (List Value → Prop) → Prop
  | [], env, K => K env
  | .need nd :: r, env, K => AllTrue env nd ∧ evSat P specs r env K
  | .call k ins none _ :: r, env, K => match specs[k]? with
    | some sp => sp (ins.map (ev env)) fun outs => evSat P specs r (env ++ outs) K
    | none => False
  | .call k ins (some g) n :: r, env, K => match specs[k]? with
    | some sp => (toB (ev env g) = true → sp (ins.map (ev env)) fun outs => evSat P specs r (env ++ outs) K) ∧
      (toB (ev env g) = false → evSat P specs r (env ++ List.replicate n undef) K)
    | none => False
  | .prim p ins :: r, env, K => ∀ v, p.may P (ins.map (ev env)) v → evSat P specs r (env ++ [v]) K
  | .app c n src :: r, env, K => (ev env c).cells.size + (src.vals env).length ≤ 1099511627776 ∧
      ∀ a len cap, HasTy .sl (.slice a len cap) ∧ len ≤ cap → len * n = (ev env c).cells.size + (src.vals env).length → evSat P specs r (env ++ [.slice a len cap, .agg ((ev env c).cells ++ (src.vals env).toArray)]) K

def capCVs : List (Nat × Nat) → List CV
  | [] => []
  | c :: r => .s (.p (.own c.1) c.2) :: capCVs r

def callTgt (F : List Ex) (s : SV) : Option (Nat × List CV) :=
  match s.under F with
  | some (.s (.fn k caps)) => some (k, capCVs caps)
  | _ => none

def argsOf (F : List Ex) (f : Operand → SV) : List Operand → Option (List CV)
  | [] => some []
  | x :: r => match (f x).under F, argsOf F f r with
    | some c, some l => some (c :: l)
    | _, _ => none

def findCon (S : St) (f : Nat) (acts : List CV) : List (Nat × Sig) → Nat → Option (Nat × Sig × Mt)
  | [], _ => none
  | (f', sig) :: r, k => if Nat.beq f f' then match mCall S sig acts with
      | some m => some (k, sig, m)
      | none => findCon S f acts r (k + 1)
    else findCon S f acts r (k + 1)

theorem findCon_get {S : St} {f : Nat} {acts : List CV} : ∀ {l : List (Nat × Sig)} {n k : Nat} {sig : Sig} {m : Mt}, findCon S f acts l n = some (k, sig, m) →
    ∃ j, k = n + j ∧ l[j]? = some (f, sig) ∧ mCall S sig acts = some m
  | [], _, _, _, _, h => by cases h
  | (f', sg) :: r, n, k, sig, m, h => by
    simp only [findCon] at h
    split at h
    · rename_i hf
      have hf := Nat.eq_of_beq_eq_true hf
      subst hf
      split at h
      · rename_i m' hm; cases h; exact ⟨0, rfl, rfl, hm⟩
      · obtain ⟨j, h1, h2, h3⟩ := findCon_get h
        exact ⟨j + 1, by omega, by simpa using h2, h3⟩
    · obtain ⟨j, h1, h2, h3⟩ := findCon_get h
      exact ⟨j + 1, by omega, by simpa using h2, h3⟩

def primOf (P : Program) (Γ : Ctx) (F : List Ex) (f : Operand → SV) : Op → Option (Pr × List Ex)
  | .binOp op _ x y _ => match exOf F (f x), exOf F (f y) with
    | some a, some b => match ty Γ F a with
      | some (.flt k) => if isFlt k (ty Γ F b) then match op with
        | .add | .sub | .mul | .quo => some (.fa op k, [a, b])
        | _ => none else none
      | some (.cpx k) => match ty Γ F b with
        | some (.cpx k') => if decide (k = k') then match op with
          | .add | .sub | .mul | .quo => some (.ca op k, [a, b])
          | _ => none else none
        | _ => none
      | _ => none
    | _, _ => none
  | .convert src dst x => match exOf F (f x), P.underlying src, P.underlying dst with
    | some a, some (.float _), some (.float t) => match ty Γ F a with
      | some (.flt s) => some (.ff s t, [a])
      | _ => none
    | some a, some (.complex _), some (.complex t) => match ty Γ F a with
      | some (.cpx s) => some (.cc s t, [a])
      | _ => none
    | _, _, _ => none
  | _ => none

/-- The operands as they are where the guard's facts hold. -/
def underF (F : List Ex) (f : Operand → SV) : Operand → SV := fun x => match (f x).under F with
  | some c => .c c
  | none => .unk
def underV (ρ : Nat → Nat) (env : List Value) (F : List Ex) (f : Operand → SV) : Operand → Value := fun x => match (f x).under F with
  | some c => c.val ρ env
  | none => undef
theorem underF_self {ρ : Nat → Nat} {env : List Value} {F : List Ex} {f : Operand → SV} (x : Operand) : (underF F f x).is ρ env (underV ρ env F f x) := by
  unfold underF underV
  split
  · rfl
  · trivial
theorem underF_is {ρ : Nat → Nat} {env : List Value} {F : List Ex} (HF : AllTrue env F) {f : Operand → SV} {g : Operand → Value} (hf : ∀ x, (f x).is ρ env (g x)) (x : Operand) : (underF F f x).is ρ env (g x) := by
  unfold underF
  split
  · rename_i c hc
    exact SV.under_is HF hc (hf x)
  · trivial

/-! appending -/
def contOf (G : List (Ex × Ex × Nat)) (x : Ex) (n : Nat) : Option Ex :=
  match x with
  | .val (.slice none 0 0) => some (.val (.agg #[]))
  | x => findG G x n
def exsOf : List Sc → Option (List Ex)
  | [] => some []
  | .e x :: r => match exsOf r with
    | some l => some (x :: l)
    | none => none
  | _ :: _ => none
def blkId : Bk → List Nat
  | .own id => [id]
  | .glob _ => []
def srcOf (glb : List (Nat × List Sc)) (S : St) (n : Nat) (sv : SV) : Option Src :=
  match sv.under S.F with
  | some (.s (.sl b off len _)) => match (S.cx glb (blkId b)).row b with
    | some l => if Nat.ble (off + len * n) l.length then match exsOf ((l.drop off).take (len * n)) with
      | some es => some (.cells es)
      | none => none else none
    | none => none
  | some (.s (.e x)) => match contOf S.G x n with
    | some c => some (.row c)
    | none => none
  | _ => none
def rowTy (S : St) (k : IntKind) (n : Nat) (c : Ex) : Bool :=
  match c with
  | .val (.agg cs) => Nat.beq cs.size 0
  | c => c.lt S.Γ.length && match ty S.Γ S.F c with
    | some (.row k' n') => decide (k = k') && Nat.beq n n'
    | _ => false
def exsTy (S : St) (k : IntKind) : List Ex → Bool
  | [] => true
  | x :: r => x.lt S.Γ.length && isInt k (ty S.Γ S.F x) && exsTy S k r
def srcTy (S : St) (k : IntKind) (n : Nat) : Src → Bool
  | .cells l => Nat.beq (l.length % n) 0 && exsTy S k l
  | .row c => rowTy S k n c
/-- A row of mixed cells. -/
def rowTyC (S : St) (cs : List Ct) (c : Ex) : Bool :=
  match c with
  | .val (.agg a) => Nat.beq a.size 0
  | c => c.lt S.Γ.length && match ty S.Γ S.F c with
    | some t => t.beq (.rowC cs)
    | none => false
/-- What a cell is in a row: a slice of numbers that is new is kept together with what it holds. -/
def ctOf (S : St) (x : Ex) : Option (Ct × Ex) :=
  match ty S.Γ S.F x with
  | some (.int k) => some (.int k, x)
  | some .bool => some (.bool, x)
  | some .str => some (.str, x)
  | some .sl => match findG S.G x 1 with
    | some c => match ty S.Γ S.F c with
      | some (.row k m) => if Nat.beq m 1 && S.X.fr.any (prBeq (x, c)) then some (.fat k 1, .fat x c) else some (.sl, x)
      | _ => some (.sl, x)
    | none => some (.sl, x)
  | _ => none
def ctsOf (S : St) : List Ex → Option (List Ct × List Ex)
  | [] => some ([], [])
  | x :: r => match ctOf S x, ctsOf S r with
    | some (c, y), some (cs, l) => if x.lt S.Γ.length then some (c :: cs, y :: l) else none
    | _, _ => none
def rowNew (S : St) (n : Nat) (d : Ex) : Bool := S.G.any fun g => g.2.1.beq d && Nat.beq g.2.2 n && S.X.fr.any (prBeq (g.1, d))
def kindTy (S : St) (n : Nat) (c : Ex) (src : Src) : Option (Ty × Src) :=
  if rowTy S .i64 n c && srcTy S .i64 n src then some (.row .i64 n, src)
  else if rowTy S .u8 n c && srcTy S .u8 n src then some (.row .u8 n, src)
  else if Nat.beq n 1 then (match src with
    | .cells [x] => match ctOf S x with
      | some (.str, _) => if x.lt S.Γ.length && rowTyC S [.str] c then some (.rowC [.str], src) else none
      | _ => none
    | _ => none)
  else match src with
    | .cells l => match ctsOf S l with
      | some (cs, l') => if Nat.beq cs.length n && rowTyC S cs c then some (.rowC cs, .cells l') else none
      | none => none
    | .row d => match ty S.Γ S.F d with
      | some (.rowC cs) => if Nat.beq cs.length n && rowTyC S cs c && rowTyC S cs d && rowNew S n d then some (.rowC cs, .row d) else none
      | _ => none
/-- The slice that is appended to. -/
def ownOf (S : St) (e n : Nat) (sv : SV) : Option Ow :=
  match sv.under S.F with
  | some (.s (.e (.val (.slice none 0 0)))) => some ⟨.val (.slice none 0 0), .val (.agg #[]), n, e⟩
  | some (.s (.e x)) => match S.X.ow with
    | some o => if x.beq o.x && Nat.beq o.n n && Nat.beq o.e e && (inG o.x o.c o.n S.G && S.X.fr.any (prBeq (o.x, o.c))) then some o else none
    | none => none
  | _ => none
def elemOf (P : Program) (t : Nat) : Option (Nat × Nat) :=
  match P.underlying t with
  | some (.slice e) => match P.info? e with
    | some i => match i.zero with
      | some z => if Nat.ble 1 i.size && Nat.beq z.cells.size i.size && Nat.ble i.bytes (32 * i.size) then some (e, i.size) else none
      | none => none
    | none => none
  | _ => none
def appOf (P : Program) (glb : List (Nat × List Sc)) (S : St) (f : Operand → SV) : Op → Option (Ty × Ow × Src × Ex)
  | .call { callee := .builtin .append, args, argTypes } => match args.toList, argTypes.toList with
    | [s, x], [t, t'] => if Nat.beq t t' then match elemOf P t with
      | some (e, n) => match ownOf S e n (f s), srcOf glb S n (f x) with
        | some o, some src => match kindTy S n o.c src with
          | some (t, src') => some (t, o, src', .var (S.Γ.length + 1))
          | none => none
        | _, _ => none
      | none => none else none
    | _, _ => none
  | .buildSlice t len parts => if Nat.beq len 0 && Nat.beq parts.size 0 then match elemOf P t with
      | some (e, n) => some (.row .i64 n, ⟨.val (.slice none 0 0), .val (.agg #[]), n, e⟩, .cells [], .val (.agg #[]))
      | none => none else none
  | _ => none
/-- The state after an append. -/
def afterApp (S : St) (t : Ty) (o : Ow) (ce : Ex) : St :=
  { S with Γ := S.Γ ++ [(.sl, none), (t, none)], G := (.var S.Γ.length, ce, o.n) :: S.G,
           X := ⟨(.var S.Γ.length, ce) :: S.X.fr, some ⟨.var S.Γ.length, ce, o.n, o.e⟩⟩ }

def needIds (F : List Ex) (f : Operand → SV) : Op → List Nat
  | .load _ a | .store _ a _ => match (f a).under F with
    | some (.s (.p (.own id) _)) => [id]
    | some (.s (.pi (.own id) _ _ _ _)) => [id]
    | _ => []
  | _ => []

def allLt (n : Nat) : List Ex → Bool
  | [] => true
  | x :: r => x.lt n && allLt n r
theorem allLt_mem {n : Nat} : ∀ {l : List Ex}, allLt n l = true → ∀ x ∈ l, x.lt n = true
  | [], _, x, hx => by cases hx
  | y :: r, h, x, hx => by
    simp only [allLt, Bool.and_eq_true] at h
    rcases List.mem_cons.1 hx with rfl | hx
    · exact h.1
    · exact allLt_mem h.2 x hx

def needEv : List Ex → List Evn
  | [] => []
  | l => [.need l]

def mergeCells (g : Ex) : List Sc → List Sc → Option (List Sc)
  | [], [] => some []
  | .e x :: l, .e y :: l' => match mergeCells g l l' with
    | some r => some ((if x.beq y then .e x else .e (.ite g y x)) :: r)
    | none => none
  | s :: l, s' :: l' => if s.beq s' then match mergeCells g l l' with
    | some r => some (s :: r)
    | none => none else none
  | _, _ => none

def mergeH (g : Ex) (H0 H1 : List Ht) : List Nat → Option (List Ht)
  | [] => some H0
  | id :: r => match mergeH g H0 H1 r, hget H0 id, hget H1 id with
    | some H, some b0, some b1 => if Nat.beq b0.ty b1.ty then match mergeCells g b0.cells b1.cells with
      | some cs => some (H.set id (.bl ⟨cs, b0.ty⟩))
      | none => none else none
    | _, _, _ => none

def blksWf (al : Nat → Bool) (n : Nat) : List Ht → Bool
  | [] => true
  | .bl b :: r => scsWf al n b.cells && blksWf al n r
  | .no :: r => blksWf al n r
  | .ex :: r => blksWf al n r

/-- The state after a call that is made where g is true. -/
def afterCallG (S : St) (sig : Sig) (m : Mt) (g : Ex) : Option (SV × St) :=
  if Nat.beq sig.pre.length sig.post.length && sig.gout.isEmpty && g.lt S.Γ.length then
    match afterCall { S with F := hypsOf g ++ S.F } sig m with
    | some (.c r, S1) => match mergeH g S.H S1.H m.μ with
      | some H' =>
        if r.wf (alive S.H) (S.Γ.length + sig.tout.length) && blksWf (alive S.H) (S.Γ.length + sig.tout.length) H' then
          some (.opt g r, { T := S.T, H := H', Γ := S.Γ ++ sig.tout.map fun t => (t, some g), F := S.F, G := S.G, X := S.X })
        else none
      | _ => none
    | _ => none
  else none

/-! the operands that an operation looks at -/
def tmpsIn : List Operand → List Nat
  | [] => []
  | .tmp t :: r => t :: tmpsIn r
  | _ :: r => tmpsIn r
def looks (ops : Array Oper) (o : Oper) : List Nat :=
  match o.guard with
  | none => tmpsIn o.op.operands.toList
  | some (j, _) => match dstOf ops j with
    | none => tmpsIn o.op.operands.toList
    | some t => t :: tmpsIn o.op.operands.toList
def memN : List Nat → Nat → Bool
  | [], _ => false
  | x :: r, t => Nat.beq x t || memN r t
def fOf (lk : List Nat) (τ : Nat → SV) : Operand → SV
  | .tmp t => if memN lk t then τ t else .unk
  | .const v => opnd [] (.const v)
  | .global g => opnd [] (.global g)
  | .func f => opnd [] (.func f)
def tOf (T : List SV) : Nat → SV := fun t => T.getD t .unk

theorem fOf_is {ρ : Nat → Nat} {env : List Value} {T : List SV} {a : Act} (h : TRel ρ env T a) (lk : List Nat) (x : Operand) : (fOf lk (tOf T) x).is ρ env (a.eval x) := by
  have := opnd_is h x
  cases x with
  | tmp t =>
    simp only [fOf]
    split
    · exact this
    · trivial
  | const v => exact this
  | global g => exact this
  | func f => exact this

theorem fOf_congr {lk : List Nat} {τ τ' : Nat → SV} (h : ∀ t, memN lk t = true → τ t = τ' t) : fOf lk τ = fOf lk τ' := by
  funext x
  cases x with
  | tmp t =>
    simp only [fOf]
    split
    · exact h t ‹_›
    · rfl
  | const v => rfl
  | global g => rfl
  | func f => rfl

/-- What an operation does. -/
inductive Out
  | pure (sv : SV) (nd : List Ex)
  | alloc (b : Blk) (c : CV)
  | eff (evs : List Evn) (sv : SV) (S' : St)

def opOut (cf : Cfg) (ops : Array Oper) (o : Oper) (f : Operand → SV) (nid : Nat) (S : St) : Option Out :=
  match gdF S.Γ S.F ops o f with
  | .bad => none
  | .no => some (.pure (.tu []) [])
  | .yes => match o.op with
    | .call { callee := .value x, args, .. } => match callTgt S.F (f x), argsOf S.F f args.toList with
      | some (fn, caps), some l => match findCon S fn (l ++ caps) cf.sigs 0 with
        | some (k, sig, m) => match afterCall S sig m with
          | some (sv, S') => some (.eff [.call k m.vs none sig.tout.length] sv S')
          | none => none
        | none => none
      | _, _ => none
    | op => match step cf.P (S.cx cf.glb (needIds S.F f op)) f nid op with
      | some (.pure sv nd) => if sv.wf (alive S.H) S.Γ.length && allLt S.Γ.length nd then some (.pure sv nd) else none
      | some (.alloc b c) => if scsWf (alive S.H) S.Γ.length b.cells && c.wf (fun k => if k = nid then true else alive S.H k) S.Γ.length then some (.alloc b c) else none
      | some (.store id b) => if alive S.H id && scsWf (alive S.H) S.Γ.length b.cells then some (.eff [] (.tu []) { S with H := S.H.set id (.bl b) }) else none
      | _ => match primOf cf.P S.Γ S.F f op with
        | some (p, ins) => some (.eff [.prim p ins] (.c (.s (.e (.var S.Γ.length)))) { S with Γ := S.Γ ++ [(p.out, none)] })
        | none => match appOf cf.P cf.glb S f op with
          | some (k, o, src, ce) => some (.eff [.app o.c o.n src] (.c (.s (.e (.var S.Γ.length)))) (afterApp S k o ce))
          | none => none
  | .may g => match o.op with
    | .call { callee := .value x, args, .. } => match callTgt (hypsOf g ++ S.F) (f x), argsOf (hypsOf g ++ S.F) f args.toList with
      | some (fn, caps), some l => match findCon { S with F := hypsOf g ++ S.F } fn (l ++ caps) cf.sigs 0 with
        | some (k, sig, m) => match afterCallG S sig m g with
          | some (sv, S') => some (.eff [.call k m.vs (some g) sig.tout.length] sv S')
          | none => none
        | none => none
      | _, _ => none
    | op => match step cf.P ({ S with F := hypsOf g ++ S.F }.cx cf.glb (needIds (hypsOf g ++ S.F) f op)) f nid op with
      | some (.pure sv nd) => match sv.under (hypsOf g ++ S.F) with
        | some c => if c.wf (alive S.H) S.Γ.length && g.lt S.Γ.length && allLt S.Γ.length nd then
          some (.pure (.opt g c) (nd.map fun x => .ite g x (.bool true))) else none
        | none => none
      | _ => match primOf cf.P S.Γ S.F (underF (hypsOf g ++ S.F) f) op with
        | some (p, ins) => if g.lt S.Γ.length then some (.eff [.prim p ins] (.opt g (.s (.e (.var S.Γ.length)))) { S with Γ := S.Γ ++ [(p.out, none)] }) else none
        | none => none

def opRun (cf : Cfg) (ops : Array Oper) (o : Oper) (S : St) : Option (List Evn × St) :=
  match opOut cf ops o (fOf (looks ops o) (tOf S.T)) S.H.length { S with T := [] } with
  | some (.pure sv nd) => some (needEv nd, { S with T := putT S.T o.dst sv, F := nd ++ S.F })
  | some (.alloc b c) => some ([], { S with T := putT S.T o.dst (.c c), H := S.H ++ [.bl b] })
  | some (.eff evs sv S') => some (evs, { S' with T := putT S.T o.dst sv })
  | none => none

section
variable {cf : Cfg} {specs : List Spec} {w0 : World} {fp : Fp} {env : List Value} {ρ : Nat → Nat} {S : St} {a : Act} {w : World}

theorem capCVs_val : ∀ (l : List (Nat × Nat)), (capCVs l).map (CV.val ρ env) = l.map fun c => Value.pointer (some ⟨ρ c.1, c.2, none⟩)
  | [] => rfl
  | c :: r => by simp only [capCVs, List.map_cons, capCVs_val r]; rfl

theorem argsOf_is {F : List Ex} (HF : AllTrue env F) {f : Operand → SV} {g : Operand → Value} (hf : ∀ x, (f x).is ρ env (g x)) : ∀ {l : List Operand} {r : List CV}, argsOf F f l = some r → l.map g = r.map (CV.val ρ env)
  | [], r, h => by cases h; rfl
  | x :: l, r, h => by
    simp only [argsOf] at h
    split at h
    · rename_i c l' hc hl
      cases h
      simp only [List.map_cons, SV.under_is HF hc (hf x), argsOf_is HF hf hl]
    · cases h

/-- A call by contract, as an operation. -/
theorem call_exec {F : List Ex} (HF : AllTrue env F) {φ : Operand → SV} (hf : ∀ x, (φ x).is ρ env (a.eval x)) {o : Oper} {c : Call} {x : Operand} (ho : o.op = .call c) (hx : c.callee = .value x) {f : Nat} {caps l : List CV}
    (h1 : callTgt F (φ x) = some (f, caps)) (h2 : argsOf F φ c.args.toList = some l) (hE : Enters cf.P f) :
    (execOp a.eval o).run cf.P w = .ok (.enter f ((l ++ caps).map (CV.val ρ env)).toArray) w := by
  unfold callTgt at h1
  split at h1
  · rename_i k cs hk
    cases h1
    have e1 : a.eval x = .func (.func f) #[] (cs.map fun c => Value.pointer (some ⟨ρ c.1, c.2, none⟩)).toArray := SV.under_is HF hk (hf x)
    have e2 := argsOf_is HF hf h2
    unfold execOp
    simp only [ho, resolve, hx, e1, Deferred.ofValue, Sem.run_bind, Sem.run_pure, Result.andThen_ok, invoke]
    have e3 : c.args.map a.eval = (l.map (CV.val ρ env)).toArray := by
      rw [← e2]; apply Array.ext'; simp
    rw [e3, hE]
    congr 2
    rw [← capCVs_val (ρ := ρ) (env := env)]
    apply Array.ext'
    simp
  · cases h1

/-! appending: what it does -/
/-- A slice has grown (in its place, or into a new one). -/
structure Grown (w0 w w' : World) (e n : Nat) (v v' : Value) (cnt len' : Nat) (xs' : List Value) : Prop where
  own : w'.ownsRow w0.heap.size e n v' len' xs'
  os : w'.os = w.os
  tape : w'.tape = w.tape
  output : w'.output = w.output
  size : w.heap.size ≤ w'.heap.size
  other : ∀ k, k < w.heap.size → v.ownBlock ≠ some k → w'.heap[k]? = w.heap[k]?
  pre : ∀ k, v.ownBlock = some k → ∀ j, j < cnt → w'.cell? ⟨k, j, none⟩ = w.cell? ⟨k, j, none⟩
  blk : ∀ k, v'.ownBlock = some k → v.ownBlock = some k ∨ w.heap.size ≤ k

theorem append_grown {P : Program} {w0 w : World} (t ty e : Nat) (i : TypeInfo) (z : Value) (ht : P.underlying t = some (.slice e)) (hi : P.info? e = some i) (hz : i.zero = some z)
    (hzs : z.cells.size = i.size) (hsz : 0 < i.size) (hw0 : w0.heap.size ≤ w.heap.size) (v : Value) (len : Nat) (xs : List Value) (hown : w.ownsRow w0.heap.size e i.size v len xs)
    (x : Value) (m : Nat) (news : List Value) (hl : news.length = m * i.size) (hx : (∃ c, x = .slice none 0 c ∧ m = 0) ∨ ∃ a c, x = .slice (some a) m c ∧ ∀ j u, news[j]? = some u → w.cell? (a.add j) = some u)
    (h1 : ∀ u ∈ news, u.oneCell' = true) (h63 : len + m ≤ maxLen) (hbytes : (len + m) * i.bytes ≤ 140737488355328) :
    ∃ v' w', (Builtin.append_ #[t, t] ty #[v, x]).run P w = .ok v' w' ∧ Grown w0 w w' e i.size v v' (len * i.size) (len + m) (xs ++ news) := by
  rcases hx with ⟨c, rfl, rfl⟩ | ⟨a, c, rfl, hnews⟩
  · have hn : news = [] := List.eq_nil_of_length_eq_zero (by simpa using hl)
    subst hn
    refine ⟨v, w, ?_, ⟨by simpa using hown, rfl, rfl, rfl, Nat.le_refl _, fun _ _ _ => rfl, fun _ _ _ _ => rfl, fun k hk => .inl hk⟩⟩
    rcases hown.2 with ⟨rfl, rfl⟩ | ⟨g, cap, cur, rfl, _, _, hnc, _⟩
    · simp [Builtin.append_, run_underlying ht, sizeOf, typeInfo, hi, Builtin.lenOf, Builtin.firstCells]
    · simp [Builtin.append_, run_underlying ht, sizeOf, typeInfo, hi, Builtin.lenOf, Builtin.firstCells, hnc, storeCells]
  · rcases hown.2 with ⟨rfl, rfl⟩ | ⟨g, cap, cur, rfl, hbg, hg, hnc, hcm, hcs, htake⟩
    · obtain ⟨v', w', hr, ho, hgr, _⟩ := run_append_own w w0.heap.size t ty e i z i.size i.bytes ht hi hz rfl rfl hzs hsz _ 0 xs hown a m c news hl hnews h1 h63 hbytes hw0
      obtain ⟨v2, w2, hr2, ho2, _, _⟩ := run_append_own w w.heap.size t ty e i z i.size i.bytes ht hi hz rfl rfl hzs hsz _ 0 xs ⟨hown.1, .inl ⟨rfl, rfl⟩⟩ a m c news hl hnews h1 h63 hbytes (Nat.le_refl _)
      rw [hr] at hr2
      obtain ⟨rfl, rfl⟩ : v' = v2 ∧ w' = w2 := by
        injection hr2 with q1 q2
        exact ⟨q1, q2⟩
      exact ⟨v', w', hr, ⟨ho, hgr.os, hgr.tape, hgr.output, hgr.size, fun k hk _ => hgr.block k hk (by simp [Value.ownBlock]), fun k hk => by simp [Value.ownBlock] at hk, fun k hk => .inr (ho2.lt k hk).1⟩⟩
    · by_cases hroom : len + m ≤ cap
      · obtain ⟨w', hr, ho, hgr⟩ := run_append_fits w w0.heap.size t ty e i i.size ht hi rfl g len cap xs hown a m c news hl hnews h1 hroom
        refine ⟨_, w', hr, ⟨ho, hgr.os, hgr.tape, hgr.output, hgr.size, fun k hk hne => hgr.block k hk (fun e => hne (by simp [Value.ownBlock]; exact (Option.some.inj e).symm)), fun k hk j hj => ?_, fun k hk => .inl hk⟩⟩
        simp only [Value.ownBlock, Option.some.injEq] at hk
        subst hk
        rw [ho.cellAt j (by rw [Nat.add_mul]; omega), hown.cellAt j hj]
        rw [List.getElem?_append_left (by rw [hown.1]; exact hj)]
      · have holds : ∀ j u, xs[j]? = some u → w.cell? ((⟨g, 0, none⟩ : Addr).add j) = some u := hown.cells (g := g) rfl
        obtain ⟨v', w', hr, ho, hgr⟩ := run_append_arg_grows w t ty e i z i.size i.bytes ht hi hz rfl rfl hzs hsz ⟨g, 0, none⟩ len cap xs hown.1 holds a m c news hl hnews (by omega) h63 hbytes
        refine ⟨v', w', hr, ⟨ownsRow_base ho hw0, hgr.os, hgr.tape, hgr.output, hgr.size, fun k hk _ => hgr.block k hk (by simp), fun k hk j hj => ?_, fun k hk => .inr (ho.lt k hk).1⟩⟩
        exact World.cell?_of_block (hgr.block k (hown.lt k hk).2 (by simp))

theorem empty_grown {P : Program} {w0 w : World} {t e : Nat} {i : TypeInfo} (ht : P.underlying t = some (.slice e)) (hi : P.info? e = some i) (hw0 : w0.heap.size ≤ w.heap.size) :
    ∃ v' w', (Instr.buildSlice t 0 #[]).run P w = .ok v' w' ∧ Grown w0 w w' e i.size (.slice none 0 0) v' 0 0 [] := by
  refine ⟨.slice (some ⟨w.heap.size, 0, none⟩) 0 0, w.alloc (.cells #[] e), ?_, ?_⟩
  · unfold Instr.buildSlice
    have e0 : Array.map (fun _ => (default : Value)) (Array.range 0) = #[] := Array.eq_empty_of_size_eq_zero (by simp)
    simp [run_underlying ht, sizeOf, typeInfo, hi, Instr.fill, newRow, e0]
  · refine ⟨World.ownsRow_lit w #[] 0 hw0 (by simp [maxLen]) (by simp), rfl, rfl, rfl, by simp, fun k hk _ => World.heap_old w _ k hk, fun k hk => by simp [Value.ownBlock] at hk, fun k hk => ?_⟩
    simp only [Value.ownBlock, Option.some.injEq] at hk
    exact .inr (by omega)

theorem row_noFat {k : IntKind} {n : Nat} {v : Value} (h : HasTy (.row k n) v) : ∀ u ∈ v.cells, noFat u := by
  obtain ⟨arr, rfl, _, h2⟩ := h
  intro u hu
  obtain ⟨z, rfl, _⟩ := h2 u hu
  exact noFat_int
theorem row_noIn {k : IntKind} {n : Nat} {v : Value} (h : HasTy (.row k n) v) (b : Nat) : ¬ InBlk v b := by
  rintro ⟨u, hu, s, cc, _, _, _, e, _⟩
  exact row_noFat h u hu s cc e
theorem ownsRow_flat {w : World} {base e n : Nat} {v : Value} {len : Nat} {xs : List Value} (h : w.ownsRow base e n v len (xs.map hdV)) : FlatOk w v xs.toArray n := by
  have h0 := h
  have h1 : xs.length = len * n := by simpa using h.1
  rcases h.2 with ⟨rfl, rfl⟩ | ⟨g, cap, cur, rfl, hb, hg, hnc, hcm, hcs, htake⟩
  · left
    exact ⟨0, rfl, by rw [List.eq_nil_of_length_eq_zero (by simpa using h1 : xs.length = 0)]⟩
  · right
    refine ⟨⟨g, 0, none⟩, len, cap, rfl, rfl, by simp [h1], (h0.lt g rfl).2, fun j hj => ?_⟩
    simp only [List.size_toArray] at hj
    rw [show (0 : Nat) + j = j by omega, h0.cellAt j (by rw [← h1]; exact hj)]
    simp [hj]
/-- What a cell that is kept with what it holds asks. -/
def CellIn (w0 w : World) (ρ : Nat → Nat) (al : Nat → Bool) (own : Value) (v : Value) : Prop :=
  ∀ s cc, v = .tuple #[s, cc] → ∃ arr' : Array Value, cc = .agg arr' ∧ (∀ u ∈ arr', noFat u) ∧ FlatOk w s arr' 1 ∧
    ∀ a len cap, s = .slice (some a) len cap → w0.heap.size ≤ a.block ∧ (∀ id, al id = true → ρ id ≠ a.block) ∧ own.ownBlock ≠ some a.block
theorem CellIn.plain {w0 w : World} {ρ : Nat → Nat} {al : Nat → Bool} {own v : Value} (h : noFat v) : CellIn w0 w ρ al own v := fun s cc e => absurd e (h s cc)

theorem ownsRow_ty {w : World} {base e n : Nat} {v : Value} {len : Nat} {xs : List Value} (h : w.ownsRow base e n v len xs) : ∃ a cap, v = .slice a len cap ∧ (HasTy .sl v ∧ len ≤ cap) ∧ len * n = xs.length := by
  rcases h.2 with ⟨rfl, rfl⟩ | ⟨g, cap, cur, rfl, hb, hg, hnc, hcm, hcs, htake⟩
  · exact ⟨none, 0, rfl, ⟨⟨none, 0, 0, rfl, by omega⟩, Nat.le_refl _⟩, h.1.symm⟩
  · refine ⟨some ⟨g, 0, none⟩, cap, rfl, ⟨⟨_, len, cap, rfl, ?_⟩, hnc⟩, h.1.symm⟩
    simp only [maxLen] at hcm
    omega

theorem Rel.appended {glb : List (Nat × List Sc)} (R : Rel glb w0 fp env ρ S a w) {o : Ow} {v : Value} {len : Nat} {xs news : List Value} {t : Ty} {ce : Ex} {m : Nat} {v' : Value} {w' : World}
    (hv : ∀ k, v.ownBlock = some k → (∀ id, alive S.H id = true → ρ id ≠ k) ∧ ∀ x' c' n', (x', c', n') ∈ S.G → (∀ a' len' cap', ev env x' = .slice (some a') len' cap' → a'.block = k → a'.off + len' * n' ≤ len * o.n ∧ n' = o.n) ∧ ¬ InBlk (ev env c') k)
    (hvb : ∀ k, v.ownBlock = some k → w0.heap.size ≤ k) (hxl : xs.length = len * o.n)
    (hg : Grown w0 w w' o.e o.n v v' (len * o.n) m ((xs ++ news).map hdV)) (hty : HasTy t (.agg (xs ++ news).toArray))
    (hin : ∀ u ∈ xs ++ news, CellIn w0 w ρ (alive S.H) v u) (hce : ce = .var (S.Γ.length + 1) ∨ (ce = .val (.agg #[]) ∧ xs ++ news = [])) {d : Option Nat} :
    Rel glb w0 fp (env ++ [v', .agg (xs ++ news).toArray]) ρ { afterApp S t o ce with T := putT S.T d (.c (.s (.e (.var S.Γ.length)))) } (a.put d v') w' := by
  have hlenE : env.length = S.Γ.length := R.typed.1
  obtain ⟨va, vcap, hva, ⟨htyv, _⟩, hlen⟩ := ownsRow_ty hg.own
  have hΓ : Typed (env ++ [v', .agg (xs ++ news).toArray]) (S.Γ ++ [Ty.sl, t].map fun t => (t, none)) := Typed_append R.typed R.wfΓ (fun _ n t hn => by
    match n, hn with
    | 0, hn => simp at hn; subst hn; exact htyv
    | 1, hn => simp at hn; subst hn; exact hty
    | n + 2, hn => simp at hn) rfl
  have e0 : ev (env ++ [v', .agg (xs ++ news).toArray]) (.var S.Γ.length) = v' := by simp [ev, ← hlenE]
  have e1 : ev (env ++ [v', .agg (xs ++ news).toArray]) ce = .agg (xs ++ news).toArray := by
    rcases hce with rfl | ⟨rfl, he⟩
    · simp [ev, ← hlenE]
    · rw [he]; rfl
  have hcl : ce.lt (env ++ [v', .agg (xs ++ news).toArray]).length = true := by
    rcases hce with rfl | ⟨rfl, he⟩
    · exact Nat.ble_eq_true_of_le (by simp [hlenE])
    · rfl
  have hblk : ∀ id, alive S.H id = true → w'.heap[ρ id]? = w.heap[ρ id]? := fun id hid => hg.other _ (R.lt id hid) (fun e => (hv _ e).1 id hid rfl)
  have hnew : ∀ id, alive S.H id = true → ∀ b ln cap, v' = .slice (some b) ln cap → b.block ≠ ρ id := by
    intro id hid b ln cap e
    rcases hg.blk b.block (by rw [e]; rfl) with h | h
    · exact fun q => (hv _ h).1 id hid q.symm
    · have := R.lt id hid; omega
  have hold : ∀ x c n, (x, c, n) ∈ S.G → RowOk w (ev env x) (ev env c) n → RowOk w' (ev env x) (ev env c) n := by
    intro x c n hx hr
    have hr0 := hr
    obtain ⟨arr, ec, hor, hin⟩ := hr
    refine ⟨arr, ec, hor.imp _root_.id ?_, fun u hu s cc e => ?_⟩
    · rintro ⟨p, ln, cap, q1, q2, q3, q4, q5⟩
      refine ⟨p, ln, cap, q1, q2, q3, Nat.lt_of_lt_of_le q4 hg.size, fun j hj => ?_⟩
      rw [← q5 j hj]
      by_cases hb : v.ownBlock = some p.block
      · refine hg.pre _ hb _ ?_
        have := (((hv _ hb).2 x c n hx).1 p ln cap q1 rfl).1
        omega
      · simp only [World.cell?]
        rw [hg.other _ q4 hb]
    · obtain ⟨arr', ec', hn, hf⟩ := hin u hu s cc e
      refine ⟨arr', ec', hn, hf.keep hg.size fun p ln cap es => ?_⟩
      have hib : InBlk (ev env c) p.block := ⟨u, by rw [ec]; exact hu, s, cc, p, ln, cap, e, es, rfl⟩
      exact hg.other _ (hr0.block (.inr hib)) fun hb => ((hv _ hb).2 x c n hx).2 hib
  exact
    { tmps := by
        have hT : TRel ρ (env ++ [v', .agg (xs ++ news).toArray]) S.T a := ⟨R.tmps.1, fun t => (SV.is_ext (Nat.le_refl _) (fun _ _ => rfl) (R.wfT t)).2 (R.tmps.2 t)⟩
        exact TRel.put (S := S) hT (by simp only [SV.is, CV.val, Sc.val]; exact e0.symm)
      defers := by cases d <;> exact R.defers
      typed := hΓ
      facts := fun x hx => by rw [ev_append env _ x (R.wfF x hx)]; exact R.facts x hx
      heap := fun id b h => by
        simp only [afterApp] at h
        rw [hblk id (alive_of h), Blk.obj_ext (Nat.le_refl _) (fun _ _ => rfl) (R.wfH id b h)]; exact R.heap id b h
      inj := R.inj
      own := R.own
      fpr := R.fpr
      lt := fun id h => Nat.lt_of_lt_of_le (R.lt id h) hg.size
      rows := by
        intro x c n hx
        rcases List.mem_cons.1 hx with hx | hx
        · cases hx
          rw [e0, e1]
          refine ⟨⟨(xs ++ news).toArray, rfl, ownsRow_flat hg.own, fun u hu s cc es => ?_⟩, fun id hid hb => ?_⟩
          · obtain ⟨arr', i1, i2, i3, i4⟩ := hin u (by simpa using hu) s cc es
            exact ⟨arr', i1, i2, i3.keep hg.size fun p ln cap q => hg.other _ (i3.block q) (i4 p ln cap q).2.2⟩
          · rcases hb with ⟨b, ln, cap, e, eb⟩ | ⟨u, hu, s, cc, p, ln, cap, es, q, eb⟩
            · exact hnew id hid b ln cap e eb
            · obtain ⟨arr', i1, i2, i3, i4⟩ := hin u (by simpa [Value.cells] using hu) s cc es
              exact (i4 p ln cap q).2.1 id hid eb.symm
        · obtain ⟨g1, g2⟩ := R.wfG x c n hx
          rw [ev_append env _ x g1, ev_append env _ c g2]
          obtain ⟨r1, r2⟩ := R.rows x c n hx
          exact ⟨hold x c n hx r1, r2⟩
      glob := R.glob
      globfp := R.globfp
      os := hg.os.trans R.os
      tape := hg.tape.trans R.tape
      output := hg.output.trans R.output
      size := Nat.le_trans R.size hg.size
      frame := fun k hk hkf => by
        rw [hg.other k (Nat.lt_of_lt_of_le hk R.size) (fun e => by have := hvb k e; omega)]
        exact R.frame k hk hkf
      wfT := by
        refine putT_wf (fun t => SV.wf_mono (fun _ h => h) (by simp) (R.wfT t)) ?_
        simp only [SV.wf, CV.wf, Sc.wf, Ex.lt]
        exact Nat.ble_eq_true_of_le (by simp [hlenE])
      wfH := fun id b h => scsWf_mono (fun _ h => h) (by simp) (R.wfH id b h)
      wfF := fun x hx => Ex.lt_mono (by simp) (R.wfF x hx)
      wfG := fun x c n h => by
        rcases List.mem_cons.1 h with h | h
        · cases h
          exact ⟨Nat.ble_eq_true_of_le (by simp [hlenE]), hcl⟩
        · exact ⟨Ex.lt_mono (by simp) (R.wfG x c n h).1, Ex.lt_mono (by simp) (R.wfG x c n h).2⟩
      wfΓ := by
        intro n t g hn
        simp only [afterApp] at hn
        rcases Nat.lt_or_ge n S.Γ.length with hlt | hge
        · rw [List.getElem?_append_left hlt] at hn
          exact Ex.lt_mono (by simp) (R.wfΓ n t g hn)
        · rw [List.getElem?_append_right hge] at hn
          match hq : n - S.Γ.length, hn with
          | 0, hn => simp at hn
          | 1, hn => simp at hn
          | q + 2, hn => simp at hn
      ox := by
        refine ⟨fun x hx => ?_, fun o' ho => ?_⟩
        · rcases List.mem_cons.1 hx with rfl | hx
          · refine ⟨⟨Nat.ble_eq_true_of_le (by simp [hlenE]), hcl⟩, fun k' hb => ?_⟩
            dsimp only at hb
            rw [e0, e1] at hb
            rcases hb with ⟨b, ln, cap, e, eb⟩ | ⟨u, hu, s, cc, p, ln, cap, es, q, eb⟩
            · rw [← eb]; exact (hg.own.lt b.block (by rw [e]; rfl)).1
            · obtain ⟨arr', i1, i2, i3, i4⟩ := hin u (by simpa [Value.cells] using hu) s cc es
              rw [← eb]; exact (i4 p ln cap q).1
          · obtain ⟨⟨h1, h1'⟩, h2⟩ := R.ox.fresh x hx
            exact ⟨⟨Ex.lt_mono (by simp) h1, Ex.lt_mono (by simp) h1'⟩, by rw [ev_append env _ _ h1, ev_append env _ _ h1']; exact h2⟩
        · cases ho
          refine ⟨Nat.ble_eq_true_of_le (by simp [hlenE]), hcl, m, xs ++ news, e1, by rw [e0]; exact hg.own, fun k' hk' => ?_⟩
          rw [e0] at hk'
          refine ⟨fun id hid => ?_, fun x' c' n' hx' => ⟨fun a' ln cap ea hb => ?_, fun hb => ?_⟩⟩
          · rw [hva] at hk'
            cases va with
            | none => simp [Value.ownBlock] at hk'
            | some b =>
              simp only [Value.ownBlock, Option.some.injEq] at hk'
              rw [← hk']
              exact (hnew id hid b m vcap hva).symm
          · rcases List.mem_cons.1 hx' with hx' | hx'
            · cases hx'
              rw [e0, hva] at ea
              cases ea
              rcases hg.own.2 with ⟨q, _⟩ | ⟨g, cap', cur, q, _⟩
              · rw [hva] at q; cases q
              · rw [hva] at q; cases q; exact ⟨by simp, rfl⟩
            · rw [ev_append env _ x' (R.wfG x' c' n' hx').1] at ea
              rcases hg.blk k' hk' with h | h
              · obtain ⟨h3, h3'⟩ := ((hv k' h).2 x' c' n' hx').1 a' ln cap ea hb
                have h5 : (xs ++ news).length = m * o.n := by simpa using hg.own.1
                rw [List.length_append] at h5
                refine ⟨?_, h3'⟩
                show a'.off + ln * n' ≤ m * o.n
                omega
              · have := (R.rows x' c' n' hx').1.block (.inl ⟨a', ln, cap, ea, hb⟩)
                omega
          · rcases List.mem_cons.1 hx' with hx' | hx'
            · cases hx'
              rw [e1] at hb
              obtain ⟨u, hu, s, cc, p, ln, cap, es, q, eb⟩ := hb
              obtain ⟨arr', i1, i2, i3, i4⟩ := hin u (by simpa [Value.cells] using hu) s cc es
              rcases hg.blk k' hk' with h | h
              · exact (i4 p ln cap q).2.2 (by rw [eb]; exact h)
              · have := i3.block q
                omega
            · rw [ev_append env _ c' (R.wfG x' c' n' hx').2] at hb
              rcases hg.blk k' hk' with h | h
              · exact ((hv k' h).2 x' c' n' hx').2 hb
              · have := (R.rows x' c' n' hx').1.block (.inr hb)
                omega }

def Post (cf : Cfg) (w0 : World) (fp : Fp) (S' : St) (K : List Value → Prop) (a' : Act) (w' : World) : Prop :=
  ∃ env' ρ', Rel cf.glb w0 fp env' ρ' S' a' w' ∧ fp.pn ≤ S'.H.length ∧ K env'

/-- The same, with the names that are added told. -/
def PostE (cf : Cfg) (w0 : World) (fp : Fp) (env : List Value) (S' : St) (K : List Value → Prop) (a' : Act) (w' : World) : Prop :=
  ∃ more ρ', Rel cf.glb w0 fp (env ++ more) ρ' S' a' w' ∧ fp.pn ≤ S'.H.length ∧ K (env ++ more)
theorem PostE.post {cf : Cfg} {w0 : World} {fp : Fp} {env : List Value} {S' : St} {K : List Value → Prop} {a' : Act} {w' : World} (h : PostE cf w0 fp env S' K a' w') : Post cf w0 fp S' K a' w' := by
  obtain ⟨more, ρ', h1, h2, h3⟩ := h
  exact ⟨_, ρ', h1, h2, h3⟩

theorem upon_of_value {P : Program} {o : Oper} {a : Act} {K : Act → World → Prop} {Q : Exit → Act → World → Prop} {w w' : World} {v : Value} (h : (execOp a.eval o).run P w = .ok (.value v) w')
    (hk : K (a.put o.dst v) w') : o.wp P a w K Q := by
  unfold Oper.wp; rw [h]; exact hk
theorem upon_of_skip {P : Program} {o : Oper} {a : Act} {K : Act → World → Prop} {Q : Exit → Act → World → Prop} {w w' : World} (h : (execOp a.eval o).run P w = .ok .skip w')
    (hk : K (a.put o.dst undef) w') : o.wp P a w K Q := by
  unfold Oper.wp; rw [h]; exact hk

/-! the float operations -/
theorem Sem.mild_choose (P : Program) (q : Question) (w : World) : ∃ n w', (choose q).run P w = .ok n w' ∧ w'.heap = w.heap ∧ w'.os = w.os ∧ w'.tape = w.tape ∧ w'.output = w.output := by
  rw [run_choose]
  split
  · exact ⟨_, _, rfl, rfl, rfl, rfl, rfl⟩
  · exact ⟨_, _, rfl, rfl, rfl, rfl, rfl⟩

structure Same (w w' : World) : Prop where
  heap : w'.heap = w.heap
  os : w'.os = w.os
  tape : w'.tape = w.tape
  output : w'.output = w.output
theorem Same.refl (w : World) : Same w w := ⟨rfl, rfl, rfl, rfl⟩
theorem Same.trans {a b c : World} (h : Same a b) (k : Same b c) : Same a c := ⟨k.heap.trans h.heap, k.os.trans h.os, k.tape.trans h.tape, k.output.trans h.output⟩

theorem mild_fa (P : Program) (op : BinOp) (hop : op = .add ∨ op = .sub ∨ op = .mul ∨ op = .quo) (k : FloatKind) (x y : Nat) (w : World) : ∃ n w', (Op.floatArith op k x y).run P w = .ok (.float k n) w' ∧ Same w w' := by
  unfold Op.floatArith
  have key : ∀ r : Option Nat, ∃ n w', ((match r with | some r => pure (.float k r) | none => do pure (.float k (← choose (.nanBits k x y))) : Sem Value)).run P w = .ok (.float k n) w' ∧ Same w w' := by
    intro r
    cases r with
    | some r => exact ⟨r, w, rfl, Same.refl w⟩
    | none =>
      obtain ⟨n, w', h1, h2, h3, h4, h5⟩ := Sem.mild_choose P (.nanBits k x y) w
      exact ⟨n, w', by simp only [Sem.run_bind, h1, Result.andThen_ok, Sem.run_pure], ⟨h2, h3, h4, h5⟩⟩
  rcases hop with rfl | rfl | rfl | rfl <;> simp only [Sem.run_bind, Sem.run_pure, Result.andThen_ok] <;> exact key _

theorem mild_ff (P : Program) (s t : FloatKind) (x : Nat) (w : World) : ∃ n w', (Conv.floatToFloat s x t).run P w = .ok (.float t n) w' ∧ Same w w' := by
  unfold Conv.floatToFloat
  split
  · exact ⟨x, w, rfl, Same.refl w⟩
  · split
    · obtain ⟨n, w', h1, h2, h3, h4, h5⟩ := Sem.mild_choose P (.nanConv t x) w
      exact ⟨n, w', by simp only [Sem.run_bind, h1, Result.andThen_ok, Sem.run_pure], ⟨h2, h3, h4, h5⟩⟩
    · exact ⟨_, w, rfl, Same.refl w⟩
    · simp only
      split
      · obtain ⟨n, w', h1, h2, h3, h4, h5⟩ := Sem.mild_choose P (.floatToFloat x) w
        exact ⟨n, w', by simp only [Sem.run_bind, h1, Result.andThen_ok, Sem.run_pure], ⟨h2, h3, h4, h5⟩⟩
      · exact ⟨_, w, rfl, Same.refl w⟩

theorem mild_cc (P : Program) (s t : FloatKind) (x y : Nat) (w : World) : ∃ n m w', (Conv.complexToComplex s x y t).run P w = .ok (.complex t n m) w' ∧ Same w w' := by
  unfold Conv.complexToComplex
  obtain ⟨n, w1, h1, s1⟩ := mild_ff P s t x w
  obtain ⟨m, w2, h2, s2⟩ := mild_ff P s t y w1
  exact ⟨n, m, w2, by simp only [Sem.run_bind, h1, Result.andThen_ok, h2, Sem.run_pure], s1.trans s2⟩

theorem mild_arith (P : Program) (op : BinOp) (hop : op = .add ∨ op = .sub ∨ op = .mul ∨ op = .quo) (k : FloatKind) (x y : Nat) (w : World) : ∃ n w', (Op.Complex.arith op k x y).run P w = .ok n w' ∧ Same w w' := by
  obtain ⟨n, w', h1, s1⟩ := mild_fa P op hop k x y w
  exact ⟨n, w', by unfold Op.Complex.arith; simp only [Sem.run_bind, h1, Result.andThen_ok, Sem.run_pure], s1⟩
theorem mild_conv (P : Program) (s t : FloatKind) (x : Nat) (w : World) : ∃ n w', (Op.Complex.conv s x t).run P w = .ok n w' ∧ Same w w' := by
  unfold Op.Complex.conv
  split
  · exact ⟨x, w, rfl, Same.refl w⟩
  · obtain ⟨n, w', h1, s1⟩ := mild_ff P s t x w
    exact ⟨n, w', by simp only [Sem.run_bind, h1, Result.andThen_ok, Sem.run_pure], s1⟩

def isArith (op : BinOp) : Prop := op = .add ∨ op = .sub ∨ op = .mul ∨ op = .quo
theorem isA1 : isArith .add := .inl rfl
theorem isA2 : isArith .sub := .inr (.inl rfl)
theorem isA3 : isArith .mul := .inr (.inr (.inl rfl))
theorem isA4 : isArith .quo := .inr (.inr (.inr rfl))

theorem run_ccmp (P : Program) (op : BinOp) (hop : op = .geq ∨ op = .eql) (k : FloatKind) (x y : Nat) (w : World) : ∃ b, (Op.Complex.cmp op k x y).run P w = .ok b w := by
  rcases hop with rfl | rfl <;> exact ⟨_, rfl⟩

theorem mild_product (P : Program) (a b c d : Nat) (w : World) : ∃ n m w', (Op.Complex.product a b c d).run P w = .ok (n, m) w' ∧ Same w w' := by
  obtain ⟨x1, w1, h1, s1⟩ := mild_arith P .mul isA3 .f64 a c w
  obtain ⟨x2, w2, h2, s2⟩ := mild_arith P .mul isA3 .f64 b d w1
  obtain ⟨x3, w3, h3, s3⟩ := mild_arith P .sub isA2 .f64 x1 x2 w2
  obtain ⟨x4, w4, h4, s4⟩ := mild_arith P .mul isA3 .f64 a d w3
  obtain ⟨x5, w5, h5, s5⟩ := mild_arith P .mul isA3 .f64 b c w4
  obtain ⟨x6, w6, h6, s6⟩ := mild_arith P .add isA1 .f64 x4 x5 w5
  refine ⟨x3, x6, w6, ?_, ((((s1.trans s2).trans s3).trans s4).trans s5).trans s6⟩
  simp only [Op.Complex.product, Op.Complex.sub, Op.Complex.mul, Op.Complex.add, Sem.run_bind, h1, h2, h3, h4, h5, h6, Result.andThen_ok, Sem.run_pure]

theorem mild_corrected (P : Program) (s a b c d : Nat) (w : World) : ∃ n m w', (Op.Complex.corrected s a b c d).run P w = .ok (n, m) w' ∧ Same w w' := by
  obtain ⟨x1, w1, h1, s1⟩ := mild_arith P .mul isA3 .f64 a c w
  obtain ⟨x2, w2, h2, s2⟩ := mild_arith P .mul isA3 .f64 b d w1
  obtain ⟨x3, w3, h3, s3⟩ := mild_arith P .add isA1 .f64 x1 x2 w2
  obtain ⟨x4, w4, h4, s4⟩ := mild_arith P .mul isA3 .f64 s x3 w3
  obtain ⟨x5, w5, h5, s5⟩ := mild_arith P .mul isA3 .f64 b c w4
  obtain ⟨x6, w6, h6, s6⟩ := mild_arith P .mul isA3 .f64 a d w5
  obtain ⟨x7, w7, h7, s7⟩ := mild_arith P .sub isA2 .f64 x5 x6 w6
  obtain ⟨x8, w8, h8, s8⟩ := mild_arith P .mul isA3 .f64 s x7 w7
  refine ⟨x4, x8, w8, ?_, ((((((s1.trans s2).trans s3).trans s4).trans s5).trans s6).trans s7).trans s8⟩
  simp only [Op.Complex.corrected, Op.Complex.sub, Op.Complex.mul, Op.Complex.add, Sem.run_bind, h1, h2, h3, h4, h5, h6, h7, h8, Result.andThen_ok, Sem.run_pure]

/-- The first attempt at a quotient. -/
def quo1 (a b c d : Nat) : Sem (Nat × Nat) := do
  if ← Op.Complex.cmp .geq .f64 (Op.Complex.abs c) (Op.Complex.abs d) then do
    let ratio ← Op.Complex.quo d c
    let denom ← Op.Complex.add c (← Op.Complex.mul ratio d)
    pure (← Op.Complex.quo (← Op.Complex.add a (← Op.Complex.mul b ratio)) denom, ← Op.Complex.quo (← Op.Complex.sub b (← Op.Complex.mul a ratio)) denom)
  else do
    let ratio ← Op.Complex.quo c d
    let denom ← Op.Complex.add d (← Op.Complex.mul ratio c)
    pure (← Op.Complex.quo (← Op.Complex.add (← Op.Complex.mul a ratio) b) denom, ← Op.Complex.quo (← Op.Complex.sub (← Op.Complex.mul b ratio) a) denom)

theorem mild_quo1 (P : Program) (a b c d : Nat) (w : World) : ∃ n m w', (quo1 a b c d).run P w = .ok (n, m) w' ∧ Same w w' := by
  obtain ⟨t, ht⟩ := run_ccmp P .geq (.inl rfl) .f64 (Op.Complex.abs c) (Op.Complex.abs d) w
  cases t
  · obtain ⟨x1, w1, h1, s1⟩ := mild_arith P .quo isA4 .f64 c d w
    obtain ⟨x2, w2, h2, s2⟩ := mild_arith P .mul isA3 .f64 x1 c w1
    obtain ⟨x3, w3, h3, s3⟩ := mild_arith P .add isA1 .f64 d x2 w2
    obtain ⟨x4, w4, h4, s4⟩ := mild_arith P .mul isA3 .f64 a x1 w3
    obtain ⟨x5, w5, h5, s5⟩ := mild_arith P .add isA1 .f64 x4 b w4
    obtain ⟨x6, w6, h6, s6⟩ := mild_arith P .quo isA4 .f64 x5 x3 w5
    obtain ⟨x7, w7, h7, s7⟩ := mild_arith P .mul isA3 .f64 b x1 w6
    obtain ⟨x8, w8, h8, s8⟩ := mild_arith P .sub isA2 .f64 x7 a w7
    obtain ⟨x9, w9, h9, s9⟩ := mild_arith P .quo isA4 .f64 x8 x3 w8
    refine ⟨x6, x9, w9, ?_, (((((((s1.trans s2).trans s3).trans s4).trans s5).trans s6).trans s7).trans s8).trans s9⟩
    simp only [quo1, Sem.run_bind, ht, Result.andThen_ok, Bool.false_eq_true, if_false, Op.Complex.quo, Op.Complex.sub, Op.Complex.mul, Op.Complex.add, h1, h2, h3, h4, h5, h6, h7, h8, h9, Sem.run_pure]
  · obtain ⟨x1, w1, h1, s1⟩ := mild_arith P .quo isA4 .f64 d c w
    obtain ⟨x2, w2, h2, s2⟩ := mild_arith P .mul isA3 .f64 x1 d w1
    obtain ⟨x3, w3, h3, s3⟩ := mild_arith P .add isA1 .f64 c x2 w2
    obtain ⟨x4, w4, h4, s4⟩ := mild_arith P .mul isA3 .f64 b x1 w3
    obtain ⟨x5, w5, h5, s5⟩ := mild_arith P .add isA1 .f64 a x4 w4
    obtain ⟨x6, w6, h6, s6⟩ := mild_arith P .quo isA4 .f64 x5 x3 w5
    obtain ⟨x7, w7, h7, s7⟩ := mild_arith P .mul isA3 .f64 a x1 w6
    obtain ⟨x8, w8, h8, s8⟩ := mild_arith P .sub isA2 .f64 b x7 w7
    obtain ⟨x9, w9, h9, s9⟩ := mild_arith P .quo isA4 .f64 x8 x3 w8
    refine ⟨x6, x9, w9, ?_, (((((((s1.trans s2).trans s3).trans s4).trans s5).trans s6).trans s7).trans s8).trans s9⟩
    simp only [quo1, Sem.run_bind, ht, Result.andThen_ok, if_true, Op.Complex.quo, Op.Complex.sub, Op.Complex.mul, Op.Complex.add, h1, h2, h3, h4, h5, h6, h7, h8, h9, Sem.run_pure]

/-- What is done behind the first attempt. -/
def quo2 (a b c d e f : Nat) : Sem (Nat × Nat) := do
  let zero := (← Op.Complex.cmp .eql .f64 c 0) && (← Op.Complex.cmp .eql .f64 d 0)
  if !(Op.Complex.isNaN e && Op.Complex.isNaN f) then pure (e, f)
  else if zero && (!Op.Complex.isNaN a || !Op.Complex.isNaN b) then
    pure (← Op.Complex.mul (Op.Complex.copysign Op.Complex.inf c) a, ← Op.Complex.mul (Op.Complex.copysign Op.Complex.inf c) b)
  else if (Op.Complex.isInf a || Op.Complex.isInf b) && Op.Complex.isFinite c && Op.Complex.isFinite d then
    Op.Complex.corrected Op.Complex.inf (Op.Complex.inf2one a) (Op.Complex.inf2one b) c d
  else if (Op.Complex.isInf c || Op.Complex.isInf d) && Op.Complex.isFinite a && Op.Complex.isFinite b then
    Op.Complex.corrected 0 a b (Op.Complex.inf2one c) (Op.Complex.inf2one d)
  else pure (e, f)

theorem mild_quo2 (P : Program) (a b c d e f : Nat) (w1 : World) : ∃ n m w', (quo2 a b c d e f).run P w1 = .ok (n, m) w' ∧ Same w1 w' := by
  obtain ⟨t1, e1⟩ := run_ccmp P .eql (.inr rfl) .f64 c 0 w1
  obtain ⟨t2, e2⟩ := run_ccmp P .eql (.inr rfl) .f64 d 0 w1
  unfold quo2
  rw [Sem.run_bind, e1, Result.andThen_ok, Sem.run_bind, e2, Result.andThen_ok]
  dsimp only
  generalize (!(Op.Complex.isNaN e && Op.Complex.isNaN f)) = q1
  generalize ((t1 && t2) && (!Op.Complex.isNaN a || !Op.Complex.isNaN b)) = q2
  generalize ((Op.Complex.isInf a || Op.Complex.isInf b) && Op.Complex.isFinite c && Op.Complex.isFinite d) = q3
  generalize ((Op.Complex.isInf c || Op.Complex.isInf d) && Op.Complex.isFinite a && Op.Complex.isFinite b) = q4
  generalize Op.Complex.copysign Op.Complex.inf c = y1
  generalize Op.Complex.inf2one a = y2
  generalize Op.Complex.inf2one b = y3
  generalize Op.Complex.inf2one c = y4
  generalize Op.Complex.inf2one d = y5
  generalize Op.Complex.inf = y6
  cases q1
  · cases q2
    · cases q3
      · cases q4
        · simp only [Bool.false_eq_true, if_false]
          exact ⟨e, f, w1, rfl, Same.refl w1⟩
        · simp only [Bool.false_eq_true, if_false, if_true]
          exact mild_corrected P 0 a b y4 y5 w1
      · simp only [Bool.false_eq_true, if_false, if_true]
        exact mild_corrected P y6 y2 y3 c d w1
    · obtain ⟨x1, v1, k1, z1⟩ := mild_arith P .mul isA3 .f64 y1 a w1
      obtain ⟨x2, v2, k2, z2⟩ := mild_arith P .mul isA3 .f64 y1 b v1
      refine ⟨x1, x2, v2, ?_, z1.trans z2⟩
      simp only [Bool.false_eq_true, if_false, if_true]
      rw [Sem.run_bind, show Op.Complex.mul y1 a = Op.Complex.arith .mul .f64 y1 a from rfl, k1, Result.andThen_ok, Sem.run_bind, show Op.Complex.mul y1 b = Op.Complex.arith .mul .f64 y1 b from rfl, k2]
      rfl
  · exact ⟨e, f, w1, rfl, Same.refl w1⟩

theorem quotient_eq (a b c d : Nat) : Op.Complex.quotient a b c d = (quo1 a b c d >>= fun x => quo2 a b c d x.1 x.2) := by
  unfold Op.Complex.quotient quo1
  rw [bind_assoc]
  refine bind_congr fun t => ?_
  cases t
  · simp only [Bool.false_eq_true, if_false, bind_assoc, pure_bind]
    unfold quo2
    rfl
  · simp only [if_true, bind_assoc, pure_bind]
    unfold quo2
    rfl

theorem mild_quotient (P : Program) (a b c d : Nat) (w : World) : ∃ n m w', (Op.Complex.quotient a b c d).run P w = .ok (n, m) w' ∧ Same w w' := by
  obtain ⟨e, f, w1, h1, s1⟩ := mild_quo1 P a b c d w
  obtain ⟨n, m, w2, h2, s2⟩ := mild_quo2 P a b c d e f w1
  exact ⟨n, m, w2, by rw [quotient_eq, Sem.run_bind, h1]; exact h2, s1.trans s2⟩

theorem mild_ca (P : Program) (op : BinOp) (hop : isArith op) (k : FloatKind) (a b c d : Nat) (w : World) : ∃ n m w', (Op.complexOp op k a b c d).run P w = .ok (.complex k n m) w' ∧ Same w w' := by
  have two : ∀ op, isArith op → ∃ n m w', ((do pure (.complex k (← Op.Complex.arith op k a c) (← Op.Complex.arith op k b d)) : Sem Value)).run P w = .ok (.complex k n m) w' ∧ Same w w' := by
    intro op hop
    obtain ⟨x1, w1, h1, s1⟩ := mild_arith P op hop k a c w
    obtain ⟨x2, w2, h2, s2⟩ := mild_arith P op hop k b d w1
    exact ⟨x1, x2, w2, by simp only [Sem.run_bind, h1, h2, Result.andThen_ok, Sem.run_pure], s1.trans s2⟩
  have wide : op = .mul ∨ op = .quo → ∃ n m w', (Op.complexOp op k a b c d).run P w = .ok (.complex k n m) w' ∧ Same w w' := by
    intro hop
    obtain ⟨y1, w1, h1, s1⟩ := mild_conv P k .f64 a w
    obtain ⟨y2, w2, h2, s2⟩ := mild_conv P k .f64 b w1
    obtain ⟨y3, w3, h3, s3⟩ := mild_conv P k .f64 c w2
    obtain ⟨y4, w4, h4, s4⟩ := mild_conv P k .f64 d w3
    rcases hop with rfl | rfl
    · obtain ⟨e, f, w5, h5, s5⟩ := mild_product P y1 y2 y3 y4 w4
      obtain ⟨z1, w6, h6, s6⟩ := mild_conv P .f64 k e w5
      obtain ⟨z2, w7, h7, s7⟩ := mild_conv P .f64 k f w6
      refine ⟨z1, z2, w7, ?_, (((((s1.trans s2).trans s3).trans s4).trans s5).trans s6).trans s7⟩
      have hb : (BinOp.mul == BinOp.mul) = true := rfl
      simp only [Op.complexOp, Sem.run_bind, h1, h2, h3, h4, Result.andThen_ok, hb, if_true, h5, h6, h7, Sem.run_pure]
    · obtain ⟨e, f, w5, h5, s5⟩ := mild_quotient P y1 y2 y3 y4 w4
      obtain ⟨z1, w6, h6, s6⟩ := mild_conv P .f64 k e w5
      obtain ⟨z2, w7, h7, s7⟩ := mild_conv P .f64 k f w6
      refine ⟨z1, z2, w7, ?_, (((((s1.trans s2).trans s3).trans s4).trans s5).trans s6).trans s7⟩
      have hb : (BinOp.quo == BinOp.mul) = false := rfl
      simp only [Op.complexOp, Sem.run_bind, h1, h2, h3, h4, Result.andThen_ok, hb, Bool.false_eq_true, if_false, h5, h6, h7, Sem.run_pure]
  rcases hop with rfl | rfl | rfl | rfl
  · exact two .add isA1
  · exact two .sub isA2
  · exact wide (.inl rfl)
  · exact wide (.inr rfl)

theorem primOf_ok {Γ : Ctx} {F : List Ex} (HΓ : Typed env Γ) (HF : AllTrue env F) {f : Operand → SV} {g : Operand → Value} (hf : ∀ x, (f x).is ρ env (g x)) {o : Oper} {p : Pr} {ins : List Ex}
    (h : primOf cf.P Γ F f o.op = some (p, ins)) : ∃ v w', (execOp g o).run cf.P w = .ok (.value v) w' ∧ Same w w' ∧ HasTy p.out v ∧ p.may cf.P (ins.map (ev env)) v := by
  have lift : ∀ {s : Sem Value} {v : Value} {w' : World}, s.run cf.P w = .ok v w' → ((do pure (.value (← s)) : Sem Next)).run cf.P w = .ok (.value v) w' := by
    intro s v w' hs
    rw [Sem.run_bind, hs]
    rfl
  cases ho : o.op <;> rw [ho] at h <;> simp only [primOf] at h
  case binOp op xt x y yt =>
    split at h
    · rename_i ea eb ha hb
      have e1 := exOf_is HF ha (hf x)
      have e2 := exOf_is HF hb (hf y)
      split at h
      · rename_i k hk
        split at h
        · rename_i hk'
          obtain ⟨za, hza⟩ := ty_sound HΓ ea _ _ HF hk
          obtain ⟨zb, hzb⟩ := ty_sound HΓ eb _ _ HF (isFlt_eq hk')
          have key : ∀ op, isArith op → ∃ v w', (execOp g { o with op := .binOp op xt x y yt }).run cf.P w = .ok (.value v) w' ∧ Same w w' ∧ HasTy (.flt k) v ∧ (Pr.fa op k).may cf.P [ev env ea, ev env eb] v := by
            intro op hop
            obtain ⟨n, w', h1, s1⟩ := mild_fa cf.P op hop k za zb w
            refine ⟨.float k n, w', ?_, s1, ⟨n, rfl⟩, w, w', by rw [hza, hzb]; exact h1⟩
            unfold execOp
            simp only [e1, e2, hza, hzb]
            refine lift ?_
            rw [Sem.run_bind, run_eqGuard_flt]
            simp only [Result.andThen_ok]
            rcases hop with rfl | rfl | rfl | rfl <;> (simp only [binOp]; rw [if_neg (by simp)]; exact h1)
          have ho' : o = { o with op := .binOp op xt x y yt } := by rw [← ho]
          split at h
          · cases h; rw [ho']; exact key .add isA1
          · cases h; rw [ho']; exact key .sub isA2
          · cases h; rw [ho']; exact key .mul isA3
          · cases h; rw [ho']; exact key .quo isA4
          · cases h
        · cases h
      · rename_i k hk
        split at h
        · rename_i k' hk'
          split at h
          · rename_i hkk
            have hkk := of_decide_eq_true hkk
            subst hkk
            obtain ⟨za, za', hza⟩ := ty_sound HΓ ea _ _ HF hk
            obtain ⟨zb, zb', hzb⟩ := ty_sound HΓ eb _ _ HF hk'
            have key : ∀ op, isArith op → ∃ v w', (execOp g { o with op := .binOp op xt x y yt }).run cf.P w = .ok (.value v) w' ∧ Same w w' ∧ HasTy (.cpx k) v ∧ (Pr.ca op k).may cf.P [ev env ea, ev env eb] v := by
              intro op hop
              obtain ⟨n, m, w', h1, s1⟩ := mild_ca cf.P op hop k za za' zb zb' w
              refine ⟨.complex k n m, w', ?_, s1, ⟨n, m, rfl⟩, w, w', by rw [hza, hzb]; exact h1⟩
              unfold execOp
              simp only [e1, e2, hza, hzb]
              refine lift ?_
              rw [Sem.run_bind]
              have : (eqGuard op xt x y (.complex k za za') (.complex k zb zb')).run cf.P w = .ok () w := by cases op <;> rfl
              rw [this]
              simp only [Result.andThen_ok]
              rcases hop with rfl | rfl | rfl | rfl <;> (simp only [binOp]; rw [if_neg (by simp)]; exact h1)
            have ho' : o = { o with op := .binOp op xt x y yt } := by rw [← ho]
            split at h
            · cases h; rw [ho']; exact key .add isA1
            · cases h; rw [ho']; exact key .sub isA2
            · cases h; rw [ho']; exact key .mul isA3
            · cases h; rw [ho']; exact key .quo isA4
            · cases h
          · cases h
        · cases h
      · cases h
    · cases h
  case convert src dst x =>
    split at h
    · rename_i ea s0 t ha hs hd
      have e1 := exOf_is HF ha (hf x)
      split at h
      · rename_i s hk
        cases h
        obtain ⟨za, hza⟩ := ty_sound HΓ ea _ _ HF hk
        obtain ⟨n, w', h1, s1⟩ := mild_ff cf.P s t za w
        refine ⟨.float t n, w', ?_, s1, ⟨n, rfl⟩, w, w', by simp only [List.map_cons, List.map_nil, hza]; exact h1⟩
        unfold execOp
        simp only [ho, e1, hza]
        refine lift ?_
        simp [convert, run_underlying hs, run_underlying hd, h1]
      · cases h
    · rename_i ea s0 t ha hs hd
      have e1 := exOf_is HF ha (hf x)
      split at h
      · rename_i s hk
        cases h
        obtain ⟨za, za', hza⟩ := ty_sound HΓ ea _ _ HF hk
        obtain ⟨n, m, w', h1, s1⟩ := mild_cc cf.P s t za za' w
        refine ⟨.complex t n m, w', ?_, s1, ⟨n, m, rfl⟩, w, w', by simp only [List.map_cons, List.map_nil, hza]; exact h1⟩
        unfold execOp
        simp only [ho, e1, hza]
        refine lift ?_
        simp [convert, run_underlying hs, run_underlying hd, h1]
      · cases h
    · cases h
  all_goals cases h

theorem contOf_row (R : Rel cf.glb w0 fp env ρ S a w) {x c : Ex} {n : Nat} (h : contOf S.G x n = some c) : RowOk w (ev env x) (ev env c) n := by
  unfold contOf at h
  split at h
  · cases h
    exact ⟨#[], rfl, .inl ⟨0, rfl, rfl⟩, fun v hv => by simp at hv⟩
  · exact (R.rows _ _ _ (findG_mem h)).1

theorem exsOf_vals {ρ : Nat → Nat} {env : List Value} : ∀ {l : List Sc} {es : List Ex}, exsOf l = some es → vals ρ env l = es.map (ev env)
  | [], es, h => by cases h; rfl
  | .e x :: r, es, h => by
    simp only [exsOf] at h
    split at h
    · rename_i l' hl
      cases h
      have := exsOf_vals (ρ := ρ) (env := env) hl
      simp only [vals] at this
      simp only [vals, List.map_cons, this, Sc.val]
    · cases h
  | .p .. :: _, _, h | .pi .. :: _, _, h | .pr .. :: _, _, h | .sl .. :: _, _, h | .fn .. :: _, _, h => by simp [exsOf] at h

theorem addr_add' (a : Addr) (hs : a.spot = none) (j : Nat) : a.add j = ⟨a.block, a.off + j, none⟩ := by
  obtain ⟨b, o, sp⟩ := a
  simp only at hs
  subst hs
  exact addr_add b o j

/-- What stands in memory where it is appended. -/
def Src.mem (env : List Value) : Src → List Value
  | .cells l => l.map (ev env)
  | .row c => (ev env c).cells.toList.map hdV
theorem srcOf_ok (R : Rel cf.glb w0 fp env ρ S a w) {n : Nat} (hn : 0 < n) {sv : SV} {src : Src} (h : srcOf cf.glb S n sv = some src) {v : Value} (hv : sv.is ρ env v) :
    ∃ m, (src.mem env).length = m * n ∧ ((∃ c, v = .slice none 0 c ∧ m = 0) ∨ ∃ b c, v = .slice (some b) m c ∧ ∀ j u, (src.mem env)[j]? = some u → w.cell? (b.add j) = some u) := by
  unfold srcOf at h
  split at h
  · rename_i b off len cap hu
    have hv := SV.under_is R.facts hu hv
    split at h
    · rename_i l hl
      split at h
      · rename_i hle
        have hle := Nat.le_of_ble_eq_true hle
        split at h
        · rename_i es hes
          cases h
          have hvs := exsOf_vals (ρ := ρ) (env := env) hes
          have hlen : (es.map (ev env)).length = len * n := by rw [← hvs]; simp [vals]; omega
          refine ⟨len, hlen, .inr ⟨_, cap, hv, fun j u hj => ?_⟩⟩
          simp only [Src.mem] at hj
          rw [← hvs] at hj
          simp only [vals, List.getElem?_map, Option.map_eq_some_iff] at hj
          obtain ⟨s, hs, rfl⟩ := hj
          have hjl : j < len * n := by
            have := (List.getElem?_eq_some_iff.1 hs).1
            simp at this; omega
          rw [List.getElem?_take, if_pos hjl, List.getElem?_drop] at hs
          rw [addr_add]
          exact (R.mok (blkId b)).row hl _ s hs
        · cases h
      · cases h
    · cases h
  · rename_i x hu
    have hv := SV.under_is R.facts hu hv
    split at h
    · rename_i c hc
      cases h
      obtain ⟨arr, ec, hor, _⟩ := contOf_row R hc
      simp only [Src.mem, ec, Value.cells]
      rcases hor with ⟨cap, e1, e2⟩ | ⟨p, len, cap, e1, e2, e3, e4, e5⟩
      · subst e2
        refine ⟨0, by simp, .inl ⟨cap, ?_, rfl⟩⟩
        rw [hv]
        exact e1
      · refine ⟨len, by simp [e3], .inr ⟨p, cap, by rw [hv]; exact e1, fun j u hj => ?_⟩⟩
        rw [addr_add' p e2]
        rw [List.getElem?_map, Array.getElem?_toList, Option.map_eq_some_iff] at hj
        obtain ⟨u', hj, rfl⟩ := hj
        obtain ⟨hj1, hj2⟩ := Array.getElem?_eq_some_iff.1 hj
        rw [e5 j hj1, hj2]
    · cases h
  · cases h

theorem rowTy_ok (HΓ : Typed env S.Γ) (HF : AllTrue env S.F) {k : IntKind} {n : Nat} {c : Ex} (h : rowTy S k n c = true) : c.lt env.length = true ∧ HasTy (.row k n) (ev env c) := by
  unfold rowTy at h
  split at h
  · rename_i cs
    have := Nat.eq_of_beq_eq_true h
    refine ⟨rfl, cs, rfl, by rw [this]; exact Nat.dvd_zero _, fun x hx => ?_⟩
    rw [Array.eq_empty_of_size_eq_zero this] at hx
    simp at hx
  · simp only [Bool.and_eq_true] at h
    refine ⟨by rw [HΓ.1]; exact h.1, ?_⟩
    have h2 := h.2
    split at h2
    · rename_i k' n' ht
      simp only [Bool.and_eq_true] at h2
      have e1 := of_decide_eq_true h2.1
      have e2 := Nat.eq_of_beq_eq_true h2.2
      subst e1
      subst e2
      exact ty_sound HΓ c S.F _ HF ht
    · cases h2

theorem exsTy_ok (HΓ : Typed env S.Γ) (HF : AllTrue env S.F) {k : IntKind} : ∀ {l : List Ex}, exsTy S k l = true → ∀ x ∈ l, x.lt env.length = true ∧ HasTy (.int k) (ev env x)
  | [], _, x, hx => by cases hx
  | y :: r, h, x, hx => by
    simp only [exsTy, Bool.and_eq_true] at h
    rcases List.mem_cons.1 hx with rfl | hx
    · exact ⟨by rw [HΓ.1]; exact h.1.1, ty_sound HΓ x S.F _ HF (isInt_eq h.1.2)⟩
    · exact exsTy_ok HΓ HF h.2 x hx

theorem srcTy_ok (HΓ : Typed env S.Γ) (HF : AllTrue env S.F) {k : IntKind} {n : Nat} {src : Src} (h : srcTy S k n src = true) : n ∣ (src.vals env).length ∧ ∀ v ∈ src.vals env, ∃ z, v = .int k z ∧ k.wrap z = z := by
  cases src with
  | cells l =>
    simp only [srcTy, Bool.and_eq_true] at h
    refine ⟨by simp only [Src.vals, List.length_map]; exact Nat.dvd_of_mod_eq_zero (Nat.eq_of_beq_eq_true h.1), fun v hv => ?_⟩
    obtain ⟨x, hx, rfl⟩ := List.mem_map.1 hv
    exact (exsTy_ok HΓ HF h.2 x hx).2
  | row c =>
    obtain ⟨_, arr, e1, e2, e3⟩ := rowTy_ok HΓ HF h
    simp only [Src.vals, e1, Value.cells]
    exact ⟨by simpa using e2, fun v hv => e3 v (by simpa using hv)⟩

theorem rowTyC_ok (HΓ : Typed env S.Γ) (HF : AllTrue env S.F) {cs : List Ct} {c : Ex} (h : rowTyC S cs c = true) : HasTy (.rowC cs) (ev env c) := by
  unfold rowTyC at h
  split at h
  · rename_i a
    have := Nat.eq_of_beq_eq_true h
    exact ⟨a, rfl, by rw [this]; exact Nat.dvd_zero _, fun i hi => absurd hi (by omega)⟩
  · simp only [Bool.and_eq_true] at h
    have h2 := h.2
    split at h2
    · rename_i t ht
      rw [Ty.beq_eq h2] at ht
      exact ty_sound HΓ c S.F _ HF ht
    · cases h2
def RowT (t : Ty) (n : Nat) : Prop := (∃ k, t = .row k n) ∨ ∃ cs, t = .rowC cs ∧ cs.length = n
theorem rows_append {t : Ty} {n : Nat} (ht : RowT t n) {xs news : List Value} (h : HasTy t (.agg xs.toArray)) (h' : HasTy t (.agg news.toArray)) : HasTy t (.agg (xs ++ news).toArray) := by
  rcases ht with ⟨k, rfl⟩ | ⟨cs, rfl, _⟩
  · obtain ⟨arr, e1, e2, e3⟩ := h
    obtain ⟨arr', e1', e2', e3'⟩ := h'
    cases e1
    cases e1'
    refine ⟨_, rfl, ?_, fun x hx => ?_⟩
    · simp only [List.size_toArray, List.length_append]
      exact Nat.dvd_add (by simpa using e2) (by simpa using e2')
    · simp only [List.mem_toArray, List.mem_append] at hx
      rcases hx with hx | hx
      · exact e3 x (by simpa using hx)
      · exact e3' x (by simpa using hx)
  · obtain ⟨arr, e1, e2, e3⟩ := h
    obtain ⟨arr', e1', e2', e3'⟩ := h'
    cases e1
    cases e1'
    have e2 : cs.length ∣ xs.length := by simpa using e2
    refine ⟨_, rfl, ?_, fun i hi c hc => ?_⟩
    · simp only [List.size_toArray, List.length_append]
      exact Nat.dvd_add e2 (by simpa using e2')
    · simp only [List.size_toArray, List.length_append] at hi
      simp only [List.getElem_toArray]
      by_cases hlt : i < xs.length
      · rw [List.getElem_append_left hlt]
        have := e3 i (by simpa using hlt) c hc
        simpa using this
      · have hge : xs.length ≤ i := by omega
        rw [List.getElem_append_right hge]
        obtain ⟨q, hq⟩ := e2
        have hmod : (i - xs.length) % cs.length = i % cs.length := by
          have e : i = (i - xs.length) + cs.length * q := by omega
          exact ((congrArg (· % cs.length) e).trans (Nat.add_mul_mod_self_left _ _ _)).symm
        have := e3' (i - xs.length) (by simp; omega) c (by rw [hmod]; exact hc)
        simpa using this

theorem ctOf_ok (R : Rel cf.glb w0 fp env ρ S a w) {n : Nat} (hn1 : n ≠ 1) {v : Value}
    (hap : ∀ k, v.ownBlock = some k → ∀ x' c' n', (x', c', n') ∈ S.G → ∀ a' len' cap', ev env x' = .slice (some a') len' cap' → a'.block = k → n' = n)
    {x y : Ex} {c : Ct} (h : ctOf S x = some (c, y)) : CtOk c (ev env y) ∧ hdV (ev env y) = ev env x ∧ (ev env x).oneCell' = true ∧ CellIn w0 w ρ (alive S.H) v (ev env y) := by
  have sl : ∀ {ct y}, ty S.Γ S.F x = some .sl → some (Ct.sl, x) = some (ct, y) → CtOk ct (ev env y) ∧ hdV (ev env y) = ev env x ∧ (ev env x).oneCell' = true ∧ CellIn w0 w ρ (alive S.H) v (ev env y) := by
    intro ct y ht h
    cases h
    obtain ⟨b, len, cap, e, hb⟩ := ty_sound R.typed x S.F _ R.facts ht
    rw [e]
    exact ⟨⟨b, len, cap, rfl, hb⟩, rfl, rfl, CellIn.plain (fun s c h => by cases h)⟩
  unfold ctOf at h
  split at h
  · rename_i k ht
    cases h
    obtain ⟨z, e, hz⟩ := ty_sound R.typed x S.F _ R.facts ht
    rw [e]
    exact ⟨⟨z, rfl, hz⟩, rfl, rfl, CellIn.plain noFat_int⟩
  · rename_i ht
    cases h
    obtain ⟨z, e⟩ := ty_sound R.typed x S.F _ R.facts ht
    rw [e]
    exact ⟨⟨z, rfl⟩, rfl, rfl, CellIn.plain (fun s c h => by cases h)⟩
  · rename_i ht
    cases h
    obtain ⟨z, e, hz⟩ := ty_sound R.typed x S.F _ R.facts ht
    rw [e]
    exact ⟨⟨z, rfl, hz⟩, rfl, rfl, CellIn.plain (fun s c h => by cases h)⟩
  · rename_i ht
    split at h
    · rename_i ce hce
      split at h
      · rename_i k m hck
        split at h
        · rename_i hc
          simp only [Bool.and_eq_true] at hc
          obtain rfl := Nat.eq_of_beq_eq_true hc.1
          cases h
          have hmem := findG_mem hce
          obtain ⟨r1, r2⟩ := R.rows x ce 1 hmem
          obtain ⟨_, hfr⟩ := R.ox.fresh _ (any_mem hc.2)
          obtain ⟨b, len, cap, e, hb⟩ := ty_sound R.typed x S.F _ R.facts ht
          obtain ⟨arr, ec, hd, hall⟩ := ty_sound R.typed ce S.F _ R.facts hck
          have ef : ev env (.fat x ce) = .tuple #[.slice b len cap, .agg arr] := by simp only [ev, e, ec]
          rw [ef, e]
          refine ⟨⟨b, len, cap, arr, rfl, hb, hd, hall⟩, rfl, rfl, fun s cc es => ?_⟩
          cases es
          obtain ⟨arr0, ec0, hfl, _⟩ := r1
          rw [ec] at ec0
          cases ec0
          refine ⟨arr, rfl, fun u hu => ?_, by rw [← e]; exact hfl, fun p ln cp eq => ?_⟩
          · obtain ⟨z, rfl, _⟩ := hall u hu
            exact noFat_int
          · have hbo : BlkOf (ev env x) (ev env ce) p.block := .inl ⟨p, ln, cp, by rw [e, eq], rfl⟩
            refine ⟨hfr _ hbo, fun id hid he => r2 id hid (by rw [he]; exact hbo), fun ho => hn1 ?_⟩
            exact (hap _ ho x ce 1 hmem p ln cp (by rw [e, eq]) rfl).symm
        · exact sl ht h
      · exact sl ht h
    · exact sl ht h
  · cases h

theorem ctsOf_ok (R : Rel cf.glb w0 fp env ρ S a w) {n : Nat} (hn1 : n ≠ 1) {v : Value}
    (hap : ∀ k, v.ownBlock = some k → ∀ x' c' n', (x', c', n') ∈ S.G → ∀ a' len' cap', ev env x' = .slice (some a') len' cap' → a'.block = k → n' = n) :
    ∀ {l l' : List Ex} {cs : List Ct}, ctsOf S l = some (cs, l') → l'.length = cs.length ∧ (∀ (i : Nat) (c : Ct) (y : Ex), cs[i]? = some c → l'[i]? = some y → CtOk c (ev env y)) ∧
      l'.map (fun y => hdV (ev env y)) = l.map (ev env) ∧ (∀ x ∈ l, (ev env x).oneCell' = true) ∧ ∀ y ∈ l', CellIn w0 w ρ (alive S.H) v (ev env y)
  | [], l', cs, h => by
    cases h
    exact ⟨rfl, (fun i c y h => by simp at h), rfl, (fun x hx => by cases hx), (fun y hy => by cases hy)⟩
  | x :: r, l', cs, h => by
    simp only [ctsOf] at h
    split at h
    · rename_i c y cs' l'' h1 h2
      split at h
      · cases h
        obtain ⟨i1, i2, i3, i4⟩ := ctOf_ok R hn1 hap h1
        obtain ⟨j1, j2, j3, j4, j5⟩ := ctsOf_ok R hn1 hap h2
        refine ⟨by simp [j1], fun i c' y' hc hy => ?_, by simp only [List.map_cons, i2, j3], fun u hu => ?_, fun u hu => ?_⟩
        · cases i with
          | zero => simp at hc hy; subst hc; subst hy; exact i1
          | succ i => simp at hc hy; exact j2 i c' y' hc hy
        · rcases List.mem_cons.1 hu with rfl | hu
          · exact i3
          · exact j4 u hu
        · rcases List.mem_cons.1 hu with rfl | hu
          · exact i4
          · exact j5 u hu
      · cases h
    · cases h

theorem ints_mem {k : IntKind} {l : List Value} (h : ∀ v ∈ l, ∃ z, v = .int k z ∧ k.wrap z = z) : l.map hdV = l := by
  refine (List.map_congr_left fun v hv => ?_).trans (List.map_id l)
  obtain ⟨z, rfl, _⟩ := h v hv
  rfl
theorem CtOk.oneHd {c : Ct} {v : Value} (h : CtOk c v) : (hdV v).oneCell' = true := by
  cases c with
  | int k => obtain ⟨z, rfl, _⟩ := h; rfl
  | bool => obtain ⟨z, rfl⟩ := h; rfl
  | str => obtain ⟨z, rfl, _⟩ := h; rfl
  | sl => obtain ⟨a, n, c, rfl, _⟩ := h; rfl
  | one =>
    have h : v.oneCell' = true := h
    cases v <;> first | exact h | (simp [Value.oneCell'] at h)
  | fat k n => obtain ⟨a, len, cap, arr, rfl, _⟩ := h; rfl

theorem kindTy_ok (R : Rel cf.glb w0 fp env ρ S a w) {n : Nat} (hn0 : 0 < n) {v : Value}
    (hap : ∀ k, v.ownBlock = some k → ∀ x' c' n', (x', c', n') ∈ S.G → (∀ a' len' cap', ev env x' = .slice (some a') len' cap' → a'.block = k → n' = n) ∧ ¬ InBlk (ev env c') k)
    {c : Ex} {src src' : Src} {t : Ty} (h : kindTy S n c src = some (t, src')) : HasTy t (ev env c) ∧ HasTy t (.agg (src'.vals env).toArray) ∧ RowT t n ∧ (src'.vals env).map hdV = src.mem env ∧
      (∀ u ∈ src.mem env, u.oneCell' = true) ∧ ∀ u ∈ src'.vals env, CellIn w0 w ρ (alive S.H) v u := by
  have HΓ := R.typed
  have HF := R.facts
  have ints : ∀ k : IntKind, rowTy S k n c = true → srcTy S k n src = true → HasTy (.row k n) (ev env c) ∧ HasTy (.row k n) (.agg (src.vals env).toArray) ∧ RowT (.row k n) n ∧ (src.vals env).map hdV = src.mem env ∧
      (∀ u ∈ src.mem env, u.oneCell' = true) ∧ ∀ u ∈ src.vals env, CellIn w0 w ρ (alive S.H) v u := by
    intro k h1 h2
    obtain ⟨q1, q2⟩ := srcTy_ok HΓ HF h2
    have e1 : (src.vals env).map hdV = src.vals env := ints_mem q2
    have e2 : src.mem env = src.vals env := by
      cases src with
      | cells l => rfl
      | row d => exact e1
    refine ⟨(rowTy_ok HΓ HF h1).2, ⟨_, rfl, by simpa using q1, fun x hx => q2 x (by simpa using hx)⟩, .inl ⟨k, rfl⟩, by rw [e1, e2], fun u hu => ?_, fun u hu => ?_⟩
    · rw [e2] at hu
      obtain ⟨z, rfl, _⟩ := q2 u hu
      rfl
    · obtain ⟨z, rfl, _⟩ := q2 u hu
      exact CellIn.plain noFat_int
  unfold kindTy at h
  split at h
  · rename_i hc
    simp only [Bool.and_eq_true] at hc
    cases h
    exact ints _ hc.1 hc.2
  · rename_i hA
    split at h
    · rename_i hc
      simp only [Bool.and_eq_true] at hc
      cases h
      exact ints _ hc.1 hc.2
    · rename_i hB
      clear hA hB ints
      split at h
      · rename_i hn
        obtain rfl := Nat.eq_of_beq_eq_true hn
        split at h
        · rename_i x
          split at h
          · rename_i y hct
            split at h
            · rename_i hc
              simp only [Bool.and_eq_true] at hc
              cases h
              have ht : ty S.Γ S.F x = some .str := by
                unfold ctOf at hct
                split at hct
                · cases hct
                · cases hct
                · assumption
                · split at hct
                  · split at hct
                    · split at hct <;> cases hct
                    · cases hct
                  · cases hct
                · cases hct
              obtain ⟨s, e, hs⟩ := ty_sound HΓ x S.F _ HF ht
              refine ⟨rowTyC_ok HΓ HF hc.2, ⟨_, rfl, ⟨1, by simp [Src.vals]⟩, fun i hi c' hc' => ?_⟩, .inr ⟨_, rfl, rfl⟩, ?_, fun u hu => ?_, fun u hu => ?_⟩
              · simp only [Src.vals, List.map_cons, List.map_nil, List.size_toArray, List.length_singleton] at hi
                obtain rfl : i = 0 := by omega
                simp at hc'
                subst hc'
                simp only [Src.vals, List.map_cons, List.map_nil, List.getElem_toArray, List.getElem_cons_zero]
                exact ⟨s, e, hs⟩
              · simp only [Src.vals, Src.mem, List.map_cons, List.map_nil, e]; rfl
              · simp only [Src.mem, List.map_cons, List.map_nil, List.mem_singleton] at hu
                rw [hu, e]; rfl
              · simp only [Src.vals, List.map_cons, List.map_nil, List.mem_singleton] at hu
                rw [hu, e]
                exact CellIn.plain (fun s c h => by cases h)
            · cases h
          · cases h
        · cases h
      · rename_i hn
        have hn1 : n ≠ 1 := fun e => hn (by rw [e]; rfl)
        split at h
        · rename_i l
          split at h
          · rename_i cs l' hcs
            split at h
            · rename_i hc
              simp only [Bool.and_eq_true] at hc
              cases h
              have hl := Nat.eq_of_beq_eq_true hc.1
              obtain ⟨j1, j2, j3, j4, j5⟩ := ctsOf_ok R hn1 (fun k hk x' c' n' hx' => (hap k hk x' c' n' hx').1) hcs
              refine ⟨rowTyC_ok HΓ HF hc.2, ⟨_, rfl, ⟨1, by simp [Src.vals, j1]⟩, fun i hi c' hc' => ?_⟩, .inr ⟨_, rfl, hl⟩, ?_, fun u hu => ?_, fun u hu => ?_⟩
              · simp only [Src.vals, List.size_toArray, List.length_map] at hi
                rw [Nat.mod_eq_of_lt (by omega)] at hc'
                simp only [Src.vals, List.getElem_toArray, List.getElem_map]
                exact j2 i c' _ hc' (List.getElem?_eq_getElem hi)
              · simp only [Src.vals, Src.mem, List.map_map]
                exact j3
              · obtain ⟨x, hx, rfl⟩ := List.mem_map.1 hu
                exact j4 x hx
              · obtain ⟨x, hx, rfl⟩ := List.mem_map.1 hu
                exact j5 x hx
            · cases h
          · cases h
        · rename_i d
          split at h
          · rename_i cs hcs
            split at h
            · rename_i hc
              simp only [Bool.and_eq_true] at hc
              obtain ⟨⟨⟨c1, c2⟩, c3⟩, c4⟩ := hc
              cases h
              have hl := Nat.eq_of_beq_eq_true c1
              have hd := rowTyC_ok HΓ HF c3
              obtain ⟨g, hg1, hg2⟩ := List.any_eq_true.1 c4
              obtain ⟨x, d', n'⟩ := g
              simp only [Bool.and_eq_true] at hg2
              obtain rfl := Ex.beq_eq hg2.1.1
              obtain rfl := Nat.eq_of_beq_eq_true hg2.1.2
              obtain ⟨r1, r2⟩ := R.rows _ _ _ hg1
              obtain ⟨_, hfr⟩ := R.ox.fresh _ (any_mem hg2.2)
              obtain ⟨arr, ed, h1, h2⟩ := hd
              obtain ⟨arr0, ed0, hfl, hin⟩ := r1
              rw [ed] at ed0
              cases ed0
              refine ⟨rowTyC_ok HΓ HF c2, ?_, .inr ⟨_, rfl, hl⟩, ?_, fun u hu => ?_, fun u hu s cc es => ?_⟩
              · simp only [Src.vals, ed, Value.cells, Array.toArray_toList]
                exact ⟨arr, rfl, h1, h2⟩
              · simp only [Src.vals, Src.mem]
              · simp only [Src.mem, ed, Value.cells] at hu
                obtain ⟨u', hu', rfl⟩ := List.mem_map.1 hu
                obtain ⟨i, hi, rfl⟩ := List.getElem_of_mem hu'
                have hi' : i < arr.size := by simpa using hi
                have hm : i % cs.length < cs.length := Nat.mod_lt _ (by omega)
                have := (h2 i hi' _ (List.getElem?_eq_getElem hm)).oneHd
                simpa using this
              · simp only [Src.vals, ed, Value.cells] at hu
                have hu' : u ∈ arr := by simpa using hu
                obtain ⟨arr', e1, e2, e3⟩ := hin u hu' s cc es
                refine ⟨arr', e1, e2, e3, fun p ln cp eq => ?_⟩
                have hib : InBlk (ev env d') p.block := ⟨u, by rw [ed]; exact hu', s, cc, p, ln, cp, es, eq, rfl⟩
                exact ⟨hfr _ (.inr hib), fun id hid he => r2 id hid (by rw [he]; exact .inr hib), fun ho => (hap _ ho _ _ _ hg1).2 hib⟩
            · cases h
          · cases h

theorem ctsOf_T (S : St) (T : List SV) : ∀ l : List Ex, ctsOf { S with T := T } l = ctsOf S l
  | [] => rfl
  | x :: r => by
    simp only [ctsOf, ctsOf_T S T r]
    rfl
theorem exsTy_T (S : St) (T : List SV) (k : IntKind) : ∀ l : List Ex, exsTy { S with T := T } k l = exsTy S k l
  | [] => rfl
  | x :: r => by simp only [exsTy, exsTy_T S T k r]
theorem kindTy_T (S : St) (T : List SV) (n : Nat) (c : Ex) (src : Src) : kindTy { S with T := T } n c src = kindTy S n c src := by
  cases src with
  | row d => rfl
  | cells l =>
    unfold kindTy
    simp only [ctsOf_T, srcTy, exsTy_T]
    rfl

theorem elemOf_ok {P : Program} {t e n : Nat} (h : elemOf P t = some (e, n)) : ∃ i z, P.underlying t = some (.slice e) ∧ P.info? e = some i ∧ i.zero = some z ∧ i.size = n ∧ 0 < n ∧ z.cells.size = i.size ∧ i.bytes ≤ 32 * n := by
  unfold elemOf at h
  split at h
  · rename_i e' hu
    split at h
    · rename_i i hi
      split at h
      · rename_i z hz
        split at h
        · rename_i hc
          simp only [Bool.and_eq_true] at hc
          cases h
          exact ⟨i, z, hu, hi, hz, rfl, Nat.le_of_ble_eq_true hc.1.1, Nat.eq_of_beq_eq_true hc.1.2, Nat.le_of_ble_eq_true hc.2⟩
        · cases h
      · cases h
    · cases h
  · cases h

theorem ownOf_ok (R : Rel cf.glb w0 fp env ρ S a w) {e n : Nat} {sv : SV} {o : Ow} (h : ownOf S e n sv = some o) {v : Value} (hv : sv.is ρ env v) :
    o.n = n ∧ o.e = e ∧ v = ev env o.x ∧ Owned w0 env ρ (alive S.H) S.G o w ∧ ∀ u ∈ (ev env o.c).cells, CellIn w0 w ρ (alive S.H) v u := by
  unfold ownOf at h
  split at h
  · rename_i hu
    cases h
    refine ⟨rfl, rfl, SV.under_is R.facts hu hv, ⟨0, [], rfl, World.ownsRow_nil w _ e n, fun k hk => ?_⟩, fun u hu => ?_⟩
    · simp [ev, Value.ownBlock] at hk
    · simp [ev, Value.cells] at hu
  · rename_i x _ hu
    split at h
    · rename_i o' ho
      split at h
      · rename_i hc
        simp only [Bool.and_eq_true] at hc
        obtain ⟨⟨⟨c1, c2⟩, c3⟩, c4, c5⟩ := hc
        cases h
        have hvx : v = ev env o.x := by
          rw [← Ex.beq_eq c1]
          exact SV.under_is R.facts hu hv
        have hO := (R.ox.owned _ ho).2.2
        refine ⟨Nat.eq_of_beq_eq_true c2, Nat.eq_of_beq_eq_true c3, hvx, hO, fun u hu s cc es => ?_⟩
        have hg := inG_mem c4
        obtain ⟨r1, r2⟩ := R.rows _ _ _ hg
        obtain ⟨_, hfr⟩ := R.ox.fresh _ (any_mem c5)
        obtain ⟨arr, ec, hfl, hin⟩ := r1
        obtain ⟨arr', e1, e2, e3⟩ := hin u (by rw [ec] at hu; exact hu) s cc es
        refine ⟨arr', e1, e2, e3, fun p ln cp eq => ?_⟩
        have hib : InBlk (ev env o.c) p.block := ⟨u, hu, s, cc, p, ln, cp, es, eq, rfl⟩
        obtain ⟨_, _, _, _, hap⟩ := hO
        exact ⟨hfr _ (.inr hib), fun id hid he => r2 id hid (by rw [he]; exact .inr hib), fun ho => ((hap _ (by rw [← hvx]; exact ho)).2 _ _ _ hg).2 hib⟩
      · cases h
    · cases h
  · cases h

theorem appOf_ok {T : List SV} (R : Rel cf.glb w0 fp env ρ { S with T := T } a w) {f : Operand → SV} (hf : ∀ x, (f x).is ρ env (a.eval x)) {o : Oper} {k : Ty} {ow : Ow} {src : Src} {ce : Ex}
    (h : appOf cf.P cf.glb S f o.op = some (k, ow, src, ce)) (hb : (ev env ow.c).cells.size + (src.vals env).length ≤ 1099511627776) :
    ∃ b len cap w', (execOp a.eval o).run cf.P w = .ok (.value (.slice b len cap)) w' ∧ (HasTy .sl (.slice b len cap) ∧ len ≤ cap) ∧ len * ow.n = (ev env ow.c).cells.size + (src.vals env).length ∧
      ∀ d, Rel cf.glb w0 fp (env ++ [.slice b len cap, .agg ((ev env ow.c).cells ++ (src.vals env).toArray)]) ρ { afterApp S k ow ce with T := putT T d (.c (.s (.e (.var S.Γ.length)))) } (a.put d (.slice b len cap)) w' := by
  have lift : ∀ {s : Sem Value} {v : Value} {w' : World}, s.run cf.P w = .ok v w' → ((do pure (.value (← s)) : Sem Next)).run cf.P w = .ok (.value v) w' := by
    intro s v w' hs
    rw [Sem.run_bind, hs]
    rfl
  -- the end of both ways
  have fin : ∀ (len0 m : Nat) (xs : List Value) (v v' : Value) (w' : World), ev env ow.c = .agg xs.toArray → xs.length = len0 * ow.n → (∀ k, v.ownBlock = some k → w0.heap.size ≤ k) →
      (∀ k, v.ownBlock = some k → (∀ id, alive S.H id = true → ρ id ≠ k) ∧ ∀ x' c' n', (x', c', n') ∈ S.G → (∀ a' len' cap', ev env x' = .slice (some a') len' cap' → a'.block = k → a'.off + len' * n' ≤ len0 * ow.n ∧ n' = ow.n) ∧ ¬ InBlk (ev env c') k) →
      Grown w0 w w' ow.e ow.n v v' (len0 * ow.n) m ((xs ++ src.vals env).map hdV) → HasTy k (.agg (xs ++ src.vals env).toArray) → (∀ u ∈ xs ++ src.vals env, CellIn w0 w ρ (alive S.H) v u) →
      (ce = .var (S.Γ.length + 1) ∨ (ce = .val (.agg #[]) ∧ xs ++ src.vals env = [])) → (execOp a.eval o).run cf.P w = .ok (.value v') w' →
      ∃ b len cap w', (execOp a.eval o).run cf.P w = .ok (.value (.slice b len cap)) w' ∧ (HasTy .sl (.slice b len cap) ∧ len ≤ cap) ∧ len * ow.n = (ev env ow.c).cells.size + (src.vals env).length ∧
      ∀ d, Rel cf.glb w0 fp (env ++ [.slice b len cap, .agg ((ev env ow.c).cells ++ (src.vals env).toArray)]) ρ { afterApp S k ow ce with T := putT T d (.c (.s (.e (.var S.Γ.length)))) } (a.put d (.slice b len cap)) w' := by
    intro len0 m xs v v' w' ec hxl hvb hv hg hty hin hce hrun
    obtain ⟨b, cap, rfl, ht, hl⟩ := ownsRow_ty hg.own
    refine ⟨b, m, cap, w', hrun, ht, by rw [hl, ec]; simp [Value.cells], fun d => ?_⟩
    have e2 : ((ev env ow.c).cells ++ (src.vals env).toArray) = (xs ++ src.vals env).toArray := by rw [ec]; simp [Value.cells]
    rw [e2]
    exact R.appended (d := d) hv hvb hxl hg hty hin hce
  cases ho : o.op <;> rw [ho] at h <;> simp only [appOf] at h
  case call c =>
    obtain ⟨callee, args, argTypes⟩ := c
    cases callee with
    | value x => cases h
    | invoke x m => cases h
    | builtin bb =>
      cases bb <;> try cases h
      simp only [appOf] at h
      split at h
      · rename_i s x t t' hargs hts
        split at h
        · rename_i htt
          have htt := Nat.eq_of_beq_eq_true htt
          subst htt
          split at h
          · rename_i e n hel
            obtain ⟨i, z, hu, hi, hz, hin, hn0, hzs, hby⟩ := elemOf_ok hel
            subst hin
            split at h
            · rename_i o' src0 hown hsrc
              split at h
              · rename_i k' src' hk
                cases h
                obtain ⟨on, oe, hvx, ⟨len0, xs, hc, hor, hap⟩, hold⟩ := ownOf_ok R hown (hf s)
                obtain ⟨hty, hnty, hrt, hmem, hone, hnew⟩ := kindTy_ok (S := { S with T := T }) (v := a.eval s) R hn0 (fun k hk x' c' n' hx' => by
                  rw [hvx] at hk
                  obtain ⟨g1, g2⟩ := (hap k hk).2 x' c' n' hx'
                  exact ⟨fun a' len' cap' ea eb => by rw [(g1 a' len' cap' ea eb).2, on], g2⟩) ((kindTy_T S T _ _ _).trans hk)
                obtain ⟨m, hm, hx⟩ := srcOf_ok R hn0 hsrc (hf x)
                rw [hc] at hty
                have hxl : xs.length = len0 * ow.n := by simpa using hor.1
                rw [on, oe] at hor
                have hmlen : (src.vals env).length = m * i.size := by rw [← hm, ← hmem]; simp
                have hsz : len0 * i.size + m * i.size ≤ 1099511627776 := by
                  rw [hc] at hb
                  simp only [Value.cells, List.size_toArray] at hb
                  rw [on] at hxl
                  omega
                have hnm : len0 + m ≤ 1099511627776 := by
                  rw [← Nat.add_mul] at hsz
                  exact Nat.le_trans (Nat.le_mul_of_pos_right _ hn0) hsz
                obtain ⟨v', w', hr, hg⟩ := append_grown (w0 := w0) t o.type e i z hu hi hz hzs hn0 R.size (ev env ow.x) len0 (xs.map hdV) hor (a.eval x) m (src0.mem env) hm hx
                  hone (by simp only [maxLen]; omega) (by
                    have h1 : (len0 + m) * i.bytes ≤ (len0 + m) * (32 * i.size) := Nat.mul_le_mul_left _ hby
                    have h2 : (len0 + m) * (32 * i.size) = 32 * (len0 * i.size + m * i.size) := by rw [← Nat.add_mul, Nat.mul_left_comm]
                    omega)
                refine fin len0 (len0 + m) xs _ v' w' hc hxl (fun k hk => (hor.lt k hk).1) hap (by rw [on, oe, List.map_append, hmem]; exact hg) (rows_append hrt hty hnty) (fun u hu => ?_) (.inl rfl) ?_
                · rw [← hvx]
                  rcases List.mem_append.1 hu with hu | hu
                  · exact hold u (by rw [hc]; simpa [Value.cells] using hu)
                  · exact hnew u hu
                have hargs' : args = #[s, x] := by apply Array.ext'; rw [hargs]
                have hts' : argTypes = #[t, t] := by apply Array.ext'; rw [hts]
                subst hargs'
                subst hts'
                unfold execOp
                simp only [ho, resolve, invoke, builtin, Sem.run_bind, Sem.run_pure, Result.andThen_ok, List.map_toArray, List.map_cons, List.map_nil, hvx]
                rw [hr]
                rfl
              · cases h
            · cases h
          · cases h
        · cases h
      · cases h
  case buildSlice t len parts =>
    split at h
    · rename_i hc0
      simp only [Bool.and_eq_true] at hc0
      have hl0 := Nat.eq_of_beq_eq_true hc0.1
      have hp0 := Nat.eq_of_beq_eq_true hc0.2
      subst hl0
      split at h
      · rename_i e n hel
        obtain ⟨i, z, hu, hi, hz, hin, hn0, hzs, hby⟩ := elemOf_ok hel
        subst hin
        cases h
        obtain ⟨v', w', hr, hg⟩ := empty_grown (P := cf.P) (w0 := w0) (w := w) hu hi R.size
        refine fin 0 0 [] (.slice none 0 0) v' w' rfl (by simp) (fun k hk => by simp [Value.ownBlock] at hk) (fun k hk => by simp [Value.ownBlock] at hk) (by simpa [Src.vals] using hg) ?_ (fun u hu => by simp [Src.vals] at hu) (.inr ⟨rfl, rfl⟩) ?_
        · exact ⟨#[], rfl, Nat.dvd_zero _, fun x hx => by simp at hx⟩
        · have hpe : parts = #[] := Array.eq_empty_of_size_eq_zero hp0
          subst hpe
          unfold execOp
          simp only [ho]
          exact lift (by simpa using hr)
      · cases h
    · cases h
  all_goals cases h
end
end Go.Sx

/- One operation of a region is carried out as its symbolic run says. -/
namespace Go.Sx
open Go

section
variable {cf : Cfg} {specs : List Spec} {w0 : World} {fp : Fp} {env : List Value} {ρ : Nat → Nat} {S : St} {a : Act} {w : World}

theorem mergeCells_val {ρ' : Nat → Nat} {env' : List Value} {g : Ex} : ∀ {l l' r : List Sc}, mergeCells g l l' = some r →
    (toB (ev env' g) = true → vals ρ' env' r = vals ρ' env' l') ∧ (toB (ev env' g) = false → vals ρ' env' r = vals ρ' env' l)
  | [], [], r, h => by cases h; exact ⟨fun _ => rfl, fun _ => rfl⟩
  | .e x :: l, .e y :: l', r, h => by
    simp only [mergeCells] at h
    split at h
    · rename_i r' hr
      cases h
      obtain ⟨i1, i2⟩ := mergeCells_val (ρ' := ρ') (env' := env') (l := l) (l' := l') hr
      simp only [vals] at i1 i2
      refine ⟨fun hg => ?_, fun hg => ?_⟩
      · simp only [vals, List.map_cons, i1 hg]
        congr 1
        split
        · rename_i hb; rw [Ex.beq_eq hb]
        · simp only [Sc.val, ev, hg, if_true]
      · simp only [vals, List.map_cons, i2 hg]
        congr 1
        split
        · rfl
        · simp only [Sc.val, ev, hg, Bool.false_eq_true, if_false]
    · cases h
  | .p b o :: l, s' :: l', r, h | .pi b o st c i :: l, s' :: l', r, h | .pr x c i n j :: l, s' :: l', r, h | .sl b o ln c :: l, s' :: l', r, h | .fn f cs :: l, s' :: l', r, h => by
    simp only [mergeCells] at h
    split at h
    · rename_i hb
      split at h
      · rename_i r' hr
        cases h
        obtain ⟨i1, i2⟩ := mergeCells_val (ρ' := ρ') (env' := env') (l := l) (l' := l') hr
        simp only [vals] at i1 i2
        refine ⟨fun hg => ?_, fun hg => ?_⟩
        · simp only [vals, List.map_cons, i1 hg, Sc.beq_eq hb]
        · simp only [vals, List.map_cons, i2 hg]
      · cases h
    · cases h
  | .e x :: l, .p .. :: l', r, h | .e x :: l, .pi .. :: l', r, h | .e x :: l, .pr .. :: l', r, h | .e x :: l, .sl .. :: l', r, h | .e x :: l, .fn .. :: l', r, h => by
    simp [mergeCells, Sc.beq] at h
  | [], _ :: _, _, h => by simp [mergeCells] at h
  | .e _ :: _, [], _, h | .p .. :: _, [], _, h | .pi .. :: _, [], _, h | .pr .. :: _, [], _, h | .sl .. :: _, [], _, h | .fn .. :: _, [], _, h => by simp [mergeCells] at h

theorem mergeH_spec {g : Ex} {H0 H1 : List Ht} : ∀ {l : List Nat} {H : List Ht}, mergeH g H0 H1 l = some H → H.length = H0.length ∧
    (∀ id ∈ l, ∃ b0 b1 cs, hget H0 id = some b0 ∧ hget H1 id = some b1 ∧ b0.ty = b1.ty ∧ mergeCells g b0.cells b1.cells = some cs ∧ hget H id = some ⟨cs, b0.ty⟩) ∧ (∀ id, id ∉ l → hat H id = hat H0 id)
  | [], H, h => by cases h; exact ⟨rfl, (fun id hid => by cases hid), fun _ _ => rfl⟩
  | k :: r, H, h => by
    simp only [mergeH] at h
    split at h
    · rename_i H' b0 b1 hH h0 h1
      split at h
      · rename_i ht
        split at h
        · rename_i cs hcs
          cases h
          obtain ⟨i1, i2, i3⟩ := mergeH_spec hH
          have hlt : k < H'.length := by rw [i1]; exact hget_lt h0
          refine ⟨by simp [i1], fun id hid => ?_, fun id hid => ?_⟩
          · by_cases he : id = k
            · subst he
              exact ⟨b0, b1, cs, h0, h1, Nat.eq_of_beq_eq_true ht, hcs, by rw [hget_set _ _ _ hlt, if_pos rfl]⟩
            · rcases List.mem_cons.1 hid with e | hid
              · exact absurd e he
              · obtain ⟨c0, c1, cs', e0, e1, e2, e3, e4⟩ := i2 id hid
                exact ⟨c0, c1, cs', e0, e1, e2, e3, by rw [hget_set _ _ _ hlt, if_neg he]; exact e4⟩
          · rw [hat_set _ _ _ hlt, if_neg (fun e => hid (by rw [e]; exact List.mem_cons_self))]
            exact i3 id (fun hm => hid (List.mem_cons_of_mem _ hm))
        · cases h
      · cases h
    · cases h

theorem blksWf_get {al : Nat → Bool} {n : Nat} : ∀ {H : List Ht}, blksWf al n H = true → ∀ id b, hget H id = some b → scsWf al n b.cells = true
  | [], _, id, b, h => by simp [hget, hat, List.getD] at h
  | .bl b0 :: r, hw, 0, b, h => by simp only [blksWf, Bool.and_eq_true] at hw; simp only [hget, hat, List.getD_cons_zero, Option.some.injEq] at h; rw [← h]; exact hw.1
  | .no :: r, _, 0, b, h => by simp [hget, hat] at h
  | .ex :: r, _, 0, b, h => by simp [hget, hat] at h
  | .bl b0 :: r, hw, id + 1, b, h => by simp only [blksWf, Bool.and_eq_true] at hw; exact blksWf_get hw.2 id b (by simpa [hget, hat] using h)
  | .no :: r, hw, id + 1, b, h => by simp only [blksWf] at hw; exact blksWf_get hw id b (by simpa [hget, hat] using h)
  | .ex :: r, hw, id + 1, b, h => by simp only [blksWf] at hw; exact blksWf_get hw id b (by simpa [hget, hat] using h)

theorem hypsOf_lt {n : Nat} : ∀ {g : Ex}, g.lt n = true → ∀ x ∈ hypsOf g, x.lt n = true := by
  intro g
  induction g with
  | ite a b c iha ihb _ =>
    intro h x hx
    have h' := h
    simp only [Ex.lt, Bool.and_eq_true] at h
    by_cases hc : c = .bool false
    · subst hc
      simp only [hypsOf, List.mem_append, List.mem_singleton] at hx
      rcases hx with (hx | hx) | rfl
      · exact iha h.1.1 x hx
      · exact ihb h.1.2 x hx
      · exact h'
    · have : hypsOf (.ite a b c) = [.ite a b c] := by
        unfold hypsOf
        split
        · rename_i e; cases e; exact absurd rfl hc
        · rfl
      rw [this, List.mem_singleton] at hx
      rw [hx]; exact h'
  | _ => intro h x hx; simp only [hypsOf, List.mem_singleton] at hx; rw [hx]; exact h

theorem Rel.facts_more (R : Rel cf.glb w0 fp env ρ S a w) {l : List Ex} (h : AllTrue env l) (hl : ∀ x ∈ l, x.lt env.length = true) : Rel cf.glb w0 fp env ρ { S with F := l ++ S.F } a w :=
  { R with
    facts := fun x hx => (List.mem_append.1 hx).elim (h x) (R.facts x)
    wfF := fun x hx => (List.mem_append.1 hx).elim (hl x) (R.wfF x) }

theorem Typed_guard {Γ : Ctx} {ts : List Ty} {g : Ex} (h : Typed env (Γ ++ ts.map fun t => (t, none))) : Typed env (Γ ++ ts.map fun t => (t, some g)) := by
  refine ⟨by have := h.1; simpa using this, fun n t g' hn hx => ?_⟩
  rcases Nat.lt_or_ge n Γ.length with hlt | hge
  · rw [List.getElem?_append_left hlt] at hn
    exact h.2 n t g' (by rw [List.getElem?_append_left hlt]; exact hn) hx
  · rw [List.getElem?_append_right hge] at hn
    simp only [List.getElem?_map, Option.map_eq_some_iff] at hn
    obtain ⟨t', ht', he⟩ := hn
    cases he
    exact h.2 n _ none (by rw [List.getElem?_append_right hge]; simp [ht']) (fun x hx => by cases hx)

theorem nd_true {g : Ex} {nd : List Ex} (hg : toB (ev env g) = true) (h : AllTrue env (nd.map fun x => .ite g x (.bool true))) : AllTrue env nd := by
  intro x hx
  have := h _ (List.mem_map.2 ⟨x, hx, rfl⟩)
  simp only [ev, hg, if_true] at this
  exact this

theorem needEv_true {nd : List Ex} {K : List Value → Prop} (h : evSat cf.P specs (needEv nd) env K) : AllTrue env nd ∧ K env := by
  unfold needEv at h
  split at h
  · exact ⟨(fun x hx => by cases hx), h⟩
  · exact h

theorem afterCall_T {sig : Sig} {m : Mt} {r : SV} {S' : St} (T : List SV) (h : afterCall S sig m = some (r, S')) : afterCall { S with T := T } sig m = some (r, { S' with T := T }) := by
  unfold afterCall at h ⊢
  simp only at h ⊢
  split at h
  · rename_i hc
    rw [if_pos hc]
    split at h
    · rename_i H' r' hH hr
      split at h
      · rename_i hw
        cases h
        rw [if_pos hw]
      · cases h
    · cases h
  · cases h

/-- A guarded call that is made. -/
theorem Rel.calledG {T : List SV} (R : Rel cf.glb w0 fp env ρ { S with T := T } a w) (hfp : fp.pn ≤ S.H.length) {sig : Sig} {acts : List CV} {m : Mt} {d : Option Nat} {g : Ex} {sv : SV} {S' : St} (hg : toB (ev env g) = true)
    (hm : mCall { S with F := hypsOf g ++ S.F } sig acts = some m) (hS : afterCallG S sig m g = some (sv, S')) {K : List Value → Prop} {outs : List Value} {bs' : List Nat} {v : Value} {w' : World}
    (L : Left' sig (m.μ.map ρ) K w outs bs' v w') : ∃ ρ', Rel cf.glb w0 fp (env ++ outs) ρ' { S' with T := putT T d sv } (a.put d v) w' ∧ fp.pn ≤ S'.H.length := by
  unfold afterCallG at hS
  split at hS
  · rename_i hc
    simp only [Bool.and_eq_true] at hc
    obtain ⟨⟨c1, c2⟩, c3⟩ := hc
    have c1 := Nat.eq_of_beq_eq_true c1
    have hgo : sig.gout = [] := by simpa using c2
    have hgw : sig.gown = none := by
      cases h : sig.gown with
      | none => rfl
      | some p =>
        obtain ⟨x, c, n, e⟩ := p
        have := (L.owns x c n e h).1
        rw [hgo] at this
        cases this
    have hlenE : env.length = S.Γ.length := R.typed.1
    have hgl : g.lt env.length = true := by rw [hlenE]; exact c3
    have RF := R.facts_more (hypsOf_true (toB_true.1 hg)) (hypsOf_lt hgl)
    obtain ⟨_, _, hnd, hml, hma⟩ := RF.given (sig := sig) (acts := acts) (m := m) hm
    split at hS
    · rename_i r S1 h1
      split at hS
      · rename_i H' hH
        split at hS
        · rename_i hwf
          simp only [Bool.and_eq_true] at hwf
          cases hS
          have h1 := afterCall_T T h1
          obtain ⟨k1, k2, k3, k4, k5, k6, k7⟩ := afterCall_keep hnd c1 hml h1
          obtain ⟨ρ', R1, hfp1, hμ⟩ := RF.called (d := d) hfp hnd hml hma h1 L
          simp only at k1 k2 k3 k4 k5 k6 k7 hfp1
          have hn' : (env ++ outs).length = S.Γ.length + sig.tout.length := by simp [hlenE, L.typed.1]
          have hg' : toB (ev (env ++ outs) g) = true := by rw [ev_append env outs g hgl]; exact hg
          obtain ⟨m1, m2, m3⟩ := mergeH_spec hH
          have halS : alive H' = alive S.H := by
            funext id
            by_cases hid : id ∈ m.μ
            · obtain ⟨b0, b1, cs, e0, _, _, _, e4⟩ := m2 id hid
              rw [alive_of e0, alive_of e4]
            · exact alive_hat (m3 id hid)
          have hal1 : alive S1.H = alive S.H := by
            funext id
            by_cases hid : id ∈ m.μ
            · obtain ⟨b, hb⟩ := k2 id hid
              rw [alive_of hb]
              exact (hma id hid).symm
            · exact alive_hat (k1 id hid)
          have hr := R1.wfT
          refine ⟨ρ', ?_, by simp only [m1]; exact hfp⟩
          refine R1.conv (by simp only [halS, hal1]; exact fun _ h => h) (by cases d <;> simp [putT]) ?_ ?_ ?_ ?_ ?_ ?_ ?_ ?_ ?_ ?_
          · intro t u hu
            simp only at hu ⊢
            cases d with
            | none => exact hu
            | some d =>
              simp only [putT] at hu ⊢
              by_cases ht : d = t
              · subst ht
                rcases Nat.lt_or_ge d T.length with hl | hl
                · simp only [List.getD, List.getElem?_set_self hl, Option.getD_some, SV.is] at hu ⊢
                  rw [if_pos hg']; exact hu
                · rw [List.set_eq_of_length_le hl] at hu ⊢; exact hu
              · simp only [List.getD, List.getElem?_set_ne ht] at hu ⊢; exact hu
          · intro id b2 hb2
            by_cases hid : id ∈ m.μ
            · obtain ⟨b0, b1, cs, e0, e1, e2, e3, e4⟩ := m2 id hid
              simp only at hb2
              rw [e4] at hb2
              cases hb2
              refine ⟨b1, e1, ?_⟩
              simp only [Blk.obj, (mergeCells_val (ρ' := ρ') (env' := env ++ outs) e3).1 hg', e2]
            · simp only at hb2
              rw [hget_hat (m3 id hid)] at hb2
              exact ⟨b2, by simp only; rw [hget_hat (k1 id hid)]; exact hb2, rfl⟩
          · have := R1.typed
            simp only [k4] at this
            exact Typed_guard this
          · intro x hx
            rw [ev_append env outs x (R.wfF x hx)]
            exact R.facts x hx
          · intro p hp; simp only; rw [(k7 hgo hgw).1]; exact hp
          · intro t
            simp only [halS]
            rw [hn']
            refine putT_wf (fun t => SV.wf_mono (fun _ h => h) (by rw [hlenE]; omega) (R.wfT t)) ?_ t
            simp only [SV.wf, Bool.and_eq_true]
            exact ⟨Ex.lt_mono (by omega) c3, hwf.1⟩
          · intro id b hb
            simp only [halS]
            rw [hn']
            exact blksWf_get hwf.2 id b hb
          · intro x hx
            exact Ex.lt_mono (by simp) (R.wfF x hx)
          · intro n t g' hn
            rw [hn']
            rcases Nat.lt_or_ge n S.Γ.length with hlt | hge
            · simp only [List.getElem?_append_left hlt] at hn
              exact Ex.lt_mono (by rw [hlenE]; omega) (R.wfΓ n t g' hn)
            · simp only [List.getElem?_append_right hge, List.getElem?_map, Option.map_eq_some_iff] at hn
              obtain ⟨t', _, he⟩ := hn
              cases he
              exact Ex.lt_mono (by omega) c3
          · simp only; exact (k7 hgo hgw).2.symm
        · cases hS
      · cases hS
    · cases hS
  · cases hS

/-- A guarded call that is not made. -/
theorem Rel.uncalledG {T : List SV} (R : Rel cf.glb w0 fp env ρ { S with T := T } a w) (hfp : fp.pn ≤ S.H.length) {sig : Sig} {m : Mt} {d : Option Nat} {g : Ex} {sv : SV} {S' : St} (hg : toB (ev env g) = false)
    (hS : afterCallG S sig m g = some (sv, S')) : Rel cf.glb w0 fp (env ++ List.replicate sig.tout.length undef) ρ { S' with T := putT T d sv } (a.put d undef) w ∧ fp.pn ≤ S'.H.length := by
  unfold afterCallG at hS
  split at hS
  · rename_i hc
    simp only [Bool.and_eq_true] at hc
    obtain ⟨⟨c1, c2⟩, c3⟩ := hc
    have hlenE : env.length = S.Γ.length := R.typed.1
    have hgl : g.lt env.length = true := by rw [hlenE]; exact c3
    split at hS
    · rename_i r S1 h1
      split at hS
      · rename_i H' hH
        split at hS
        · rename_i hwf
          simp only [Bool.and_eq_true] at hwf
          cases hS
          obtain ⟨m1, m2, m3⟩ := mergeH_spec hH
          have halS : alive H' = alive S.H := by
            funext id
            by_cases hid : id ∈ m.μ
            · obtain ⟨b0, b1, cs, e0, _, _, _, e4⟩ := m2 id hid
              rw [alive_of e0, alive_of e4]
            · exact alive_hat (m3 id hid)
          have hn' : (env ++ List.replicate sig.tout.length undef).length = S.Γ.length + sig.tout.length := by simp [hlenE]
          have hg' : toB (ev (env ++ List.replicate sig.tout.length undef) g) = false := by rw [ev_append env _ g hgl]; exact hg
          have hΓ : Typed (env ++ List.replicate sig.tout.length undef) (S.Γ ++ sig.tout.map fun t => (t, some g)) := by
            refine Typed_append R.typed R.wfΓ (fun hx => ?_) (by simp)
            have := hx g rfl
            rw [this] at hg'
            cases hg'
          have wfΓ' : ∀ (n : Nat) (t : Ty) (g' : Ex), (S.Γ ++ sig.tout.map fun t => (t, some g))[n]? = some (t, some g') → g'.lt (env ++ List.replicate sig.tout.length undef).length = true := by
            intro n t g' hn
            rw [hn']
            rcases Nat.lt_or_ge n S.Γ.length with hlt | hge
            · simp only [List.getElem?_append_left hlt] at hn
              exact Ex.lt_mono (by rw [hlenE]; omega) (R.wfΓ n t g' hn)
            · simp only [List.getElem?_append_right hge, List.getElem?_map, Option.map_eq_some_iff] at hn
              obtain ⟨t', _, he⟩ := hn
              cases he
              exact Ex.lt_mono (by omega) c3
          have R1 := R.more hΓ wfΓ'
          refine ⟨?_, by simp only [m1]; exact hfp⟩
          have R2 : Rel cf.glb w0 fp (env ++ List.replicate sig.tout.length undef) ρ { T := T, H := H', Γ := S.Γ ++ sig.tout.map fun t => (t, some g), F := S.F, G := S.G, X := S.X } a w := by
            refine R1.conv (by simp only [halS]; exact fun _ h => h) rfl (fun t v h => h) ?_ hΓ R1.facts (fun p hp => hp) ?_ ?_ R1.wfF wfΓ' rfl
            · intro id b2 hb2
              by_cases hid : id ∈ m.μ
              · obtain ⟨b0, b1, cs, e0, e1, e2, e3, e4⟩ := m2 id hid
                simp only at hb2
                rw [e4] at hb2
                cases hb2
                refine ⟨b0, e0, ?_⟩
                simp only [Blk.obj, (mergeCells_val (ρ' := ρ) (env' := env ++ List.replicate sig.tout.length undef) e3).2 hg']
              · simp only at hb2
                rw [hget_hat (m3 id hid)] at hb2
                exact ⟨b2, hb2, rfl⟩
            · intro t
              simp only [halS]
              exact R1.wfT t
            · intro id b hb
              simp only [halS]
              rw [hn']
              exact blksWf_get hwf.2 id b hb
          have R3 := R2.pure (d := d) (sv := .opt g r) (v := undef) (by
            simp only [SV.is]
            rw [if_neg (by rw [hg']; simp)]) (by
            simp only [SV.wf, Bool.and_eq_true, halS]
            refine ⟨Ex.lt_mono (by simp) hgl, ?_⟩
            rw [hn']
            exact hwf.1) (nd := []) (fun x hx => by cases hx) (fun x hx => by cases hx)
          simpa using R3
        · cases hS
      · cases hS
    · cases hS
  · cases hS
end
end Go.Sx


/- Whole functions, contracts, numbers. A part of the proof of FnFilmSingle; no conditions. -/
import Derived.Test.YtebldmiopbfmgaaDoorEc
import Derived.LoopN
import Derived.Carry
import Derived.WideShapes
import Derived.ChangeOld
set_option linter.unusedVariables false
set_option linter.unusedSimpArgs false
/- A function's text run on symbols: the tree of what is left to show. -/
namespace Go.Sx
open Go

inductive Tr
  | fail (why : Nat)
  | evs (l : List Evn) (t : Tr)
  | ite (c : Ex) (a b : Tr)
  | ret (vs : List Ex)
  | lp (d : Nat) (init : List Ex) (tys : List Ty) (body : Tr)
  | next (d : Nat) (vs : List Ex)

/-- What is left to show. -/
def sat (P : Program) (specs : List Spec) : Tr → List Value → List (List Value → Prop) → (List Value → Prop) → Prop
  | .fail _, _, _, _ => False
  | .evs l t, env, N, K => evSat P specs l env fun env' => sat P specs t env' N K
  | .ite c a b, env, N, K => (ev env c = .bool true → sat P specs a env N K) ∧ (ev env c = .bool false → sat P specs b env N K)
  | .ret vs, env, _, K => K (vs.map (ev env))
  | .lp d init tys body, env, N, K => ∃ (I : List Value → Prop) (μ : List Value → Nat), I (init.map (ev env)) ∧
      ∀ vs, TypedL tys vs → I vs → sat P specs body (env ++ vs) (N.take d ++ [fun vs' => I vs' ∧ μ vs' < μ vs]) K
  | .next d vs, env, N, _ => match N[d]? with
    | some f => f (vs.map (ev env))
    | none => False

def dstsOf : List Oper → List Nat
  | [] => []
  | o :: r => match o.dst with
    | some d => d :: dstsOf r
    | none => dstsOf r
def written : Code → List Nat
  | .region _ ops _ => dstsOf ops.toList
  | .seq a b => written a ++ written b
  | .cond _ a b => written a ++ written b
  | .block _ b => written b
  | .loop b => written b
  | .scope b => written b
  | _ => []

def evsT : List Evn → Tr → Tr
  | [], t => t
  | l, t => .evs l t
def loopN (f : St → (St → Tr) → Tr) : Nat → St → Tr
  | 0, _ => .fail 2
  | n + 1, S => f S fun S' => loopN f n S'
def lpOf (an : Ann) (d n0 : Nat) (Sh S : St) (body : Tr) : Tr :=
  match backOk an n0 Sh S with
  | some init => .lp d init an.tys body
  | none => .fail 3
def nextOf (an : Ann) (d n0 : Nat) (Sh S : St) : Tr :=
  match backOk an n0 Sh S with
  | some vs => .next d vs
  | none => .fail 4

def exec (cf : Cfg) (ann : List (Nat × Ann)) (fin : St → Tr) : Code → Nat → Nat → St → (St → Tr) → (Nat → St → Tr) → Tr
  | .skip, _, _, S, k, _ => k S
  | .label _, _, _, S, k, _ => k S
  | .region id ops dr, _, _, S, k, _ => match (if dr then regionD' cf ops S else opsRun cf ops ops.toList S) with
    | some (e, S') => evsT e (k S')
    | none => .fail (1000 + id)
  | .seq a b, bid, d, S, k, x => exec cf ann fin a bid d S (fun S' => exec cf ann fin b bid d S' k x) x
  | .cond c a b, bid, d, S, k, x => match (opnd S.T c).under S.F with
    | some (.s (.e (.bool true))) => exec cf ann fin a bid d S k x
    | some (.s (.e (.bool false))) => exec cf ann fin b bid d S k x
    | some (.s (.e y)) => if isBool (ty S.Γ S.F y) && y.lt S.Γ.length then
        .ite y (exec cf ann fin a bid d { S with F := y :: S.F } k x) (exec cf ann fin b bid d { S with F := .not y :: S.F } k x) else .fail 5
    | _ => .fail 6
  | .block id b, _, d, S, k, x => exec cf ann fin b id d S k fun i S' => if Nat.beq i id then k S' else x i S'
  | .loop b, bid, d, S, _, x => match find ann bid with
    | some an => lpOf an d S.Γ.length (havoc an (written b) S) S
        (exec cf ann fin b bid (d + 1) (havoc an (written b) S) (fun S' => nextOf an d S.Γ.length (havoc an (written b) S) S') x)
    | none => loopN (fun S' k' => exec cf ann fin b bid d S' k' x) 200 S
  | .exit i, _, _, S, _, x => x i S
  | .ret, _, _, S, _, _ => fin S
  | _, _, _, _, _, _ => .fail 7

section
variable {cf : Cfg} {specs : List Spec} {w0 : World} {fp : Fp} {ann : List (Nat × Ann)} {fin : St → Tr} {K : List Value → Prop}

/-- What a tree says about the states that it belongs to. -/
def Says (cf : Cfg) (specs : List Spec) (w0 : World) (fp : Fp) (K : List Value → Prop) (d : Nat) (N : List (List Value → Prop)) (env : List Value) (k : St → Tr) (q : Act → World → Prop) : Prop :=
  ∀ (N' : List (List Value → Prop)) (S' : St) (env' : List Value) (ρ' : Nat → Nat) (a' : Act) (w' : World), N'.take d = N.take d → d ≤ N'.length → env <+: env' → Rel cf.glb w0 fp env' ρ' S' a' w' → fp.pn ≤ S'.H.length → sat cf.P specs (k S') env' N' K → q a' w'

theorem Says.weak {d : Nat} {N N2 : List (List Value → Prop)} {env env2 : List Value} {k : St → Tr} {q : Act → World → Prop} (h : Says cf specs w0 fp K d N env k q) (hN : N2.take d = N.take d) (he : env <+: env2) : Says cf specs w0 fp K d N2 env2 k q :=
  fun N' S' env' ρ' a' w' h1 h2 h3 h4 h5 h6 => h N' S' env' ρ' a' w' (h1.trans hN) h2 (he.trans h3) h4 h5 h6

theorem Says.deep {d : Nat} {N : List (List Value → Prop)} {env : List Value} {k : St → Tr} {q : Act → World → Prop} (h : Says cf specs w0 fp K d N env k q) : Says cf specs w0 fp K (d + 1) N env k q :=
  fun N' S' env' ρ' a' w' h1 h2 h3 h4 h5 h6 => h N' S' env' ρ' a' w' (by
    have := congrArg (List.take d) h1
    simp only [List.take_take] at this
    rwa [Nat.min_eq_left (Nat.le_succ d)] at this) (by omega) h3 h4 h5 h6

theorem evsT_sat {l : List Evn} {t : Tr} {env : List Value} {N : List (List Value → Prop)} (h : sat cf.P specs (evsT l t) env N K) : evSat cf.P specs l env fun env' => sat cf.P specs t env' N K := by
  unfold evsT at h
  split at h
  · exact h
  · exact h

/-- **The text does as its tree says.** -/
theorem exec_sound (hΩ : ΩOK cf specs) (hm : cf.P.follows .mixedOrders = true) : ∀ (c : Code) (bid d : Nat) (S : St) (k : St → Tr) (x : Nat → St → Tr) (env : List Value) (N : List (List Value → Prop)) (ρ : Nat → Nat) (a : Act) (w : World) (Q : Exit → Act → World → Prop),
    Says cf specs w0 fp K d N env k (Q .normal) → (∀ i, Says cf specs w0 fp K d N env (x i) (Q (.exit i))) → Says cf specs w0 fp K 0 N env fin (Q .ret) → d ≤ N.length → Rel cf.glb w0 fp env ρ S a w → fp.pn ≤ S.H.length →
    sat cf.P specs (exec cf ann fin c bid d S k x) env N K → c.wp cf.P Q a w := by
  intro c
  induction c with
  | skip =>
    intro bid d S k x env N ρ a w Q hk hx hr hd R hfp hs
    exact wp_skip (hk N S env ρ a w rfl hd (List.prefix_refl _) R hfp hs)
  | label l =>
    intro bid d S k x env N ρ a w Q hk hx hr hd R hfp hs
    exact wp_label (hk N S env ρ a w rfl hd (List.prefix_refl _) R hfp hs)
  | region id ops dr =>
    intro bid d S k x env N ρ a w Q hk hx hr hd R hfp hs
    simp only [exec] at hs
    split at hs
    · rename_i e S' he
      have hs := evsT_sat hs
      have hQ : ∀ a' w', PostE cf w0 fp env S' (fun env' => sat cf.P specs (k S') env' N K) a' w' → Q .normal a' w' := by
        rintro a' w' ⟨more, ρ', R', hfp', hs'⟩
        exact hk N S' _ ρ' a' w' rfl hd (List.prefix_append _ _) R' hfp' hs'
      cases dr
      · exact region_sound hΩ hQ R hfp he hs
      · exact drawn_sound' hΩ hm hQ R hfp he hs
    · exact hs.elim
  | seq x y ihx ihy =>
    intro bid d S k xx env N ρ a w Q hk hx hr hd R hfp hs
    simp only [exec] at hs
    refine wp_seq (ihx bid d S _ xx env N ρ a w _ ?_ hx hr hd R hfp hs)
    intro N' S' env' ρ' a' w' h1 h2 h3 h4 h5 h6
    refine ihy bid d S' k xx env' N' ρ' a' w' Q (hk.weak h1 h3) (fun i => (hx i).weak h1 h3) ?_ h2 h4 h5 h6
    exact hr.weak rfl h3
  | cond c x y ihx ihy =>
    intro bid d S k xx env N ρ a w Q hk hx hr hd R hfp hs
    have hc := opnd_is R.tmps c
    simp only [exec] at hs
    split at hs
    · rename_i hu
      exact wp_cond_true (SV.under_is R.facts hu hc) (ihx bid d S k xx env N ρ a w Q hk hx hr hd R hfp hs)
    · rename_i hu
      exact wp_cond_false (SV.under_is R.facts hu hc) (ihy bid d S k xx env N ρ a w Q hk hx hr hd R hfp hs)
    · rename_i z _ _ hu
      split at hs
      · rename_i hb
        simp only [Bool.and_eq_true] at hb
        obtain ⟨t, ht⟩ := ty_sound R.typed z _ _ R.facts (isBool_eq hb.1)
        have hv : a.eval c = .bool t := by rw [SV.under_is R.facts hu hc]; exact ht
        have hlen : z.lt env.length = true := by rw [R.typed.1]; exact hb.2
        obtain ⟨s1, s2⟩ := hs
        cases t
        · refine wp_cond_false hv (ihy bid d _ k xx env N ρ a w Q hk hx hr hd (R.facts_more (l := [.not z]) ?_ ?_) hfp (s2 ht))
          · intro u hu; rw [List.mem_singleton.1 hu]; simp [ev, ht]
          · intro u hu; rw [List.mem_singleton.1 hu]; exact hlen
        · refine wp_cond_true hv (ihx bid d _ k xx env N ρ a w Q hk hx hr hd (R.facts_more (l := [z]) ?_ ?_) hfp (s1 ht))
          · intro u hu; rw [List.mem_singleton.1 hu]; exact ht
          · intro u hu; rw [List.mem_singleton.1 hu]; exact hlen
      · exact hs.elim
    · exact hs.elim
  | block id b ih =>
    intro bid d S k x env N ρ a w Q hk hx hr hd R hfp hs
    simp only [exec] at hs
    refine wp_block (ih id d S k _ env N ρ a w _ hk ?_ hr hd R hfp hs)
    intro i N' S' env' ρ' a' w' h1 h2 h3 h4 h5 h6
    simp only at h6
    show (if i = id then Q .normal a' w' else Q (.exit i) a' w')
    split at h6
    · rename_i hi
      rw [if_pos (Nat.eq_of_beq_eq_true hi)]
      exact hk N' S' env' ρ' a' w' h1 h2 h3 h4 h5 h6
    · rename_i hi
      rw [if_neg (fun e => hi (by rw [e]; exact Nat.beq_refl _))]
      exact hx i N' S' env' ρ' a' w' h1 h2 h3 h4 h5 h6
  | loop b ih =>
    intro bid d S k x env N ρ a w Q hk hx hr hd R hfp hs
    simp only [exec] at hs
    split at hs
    · rename_i an _
      unfold lpOf at hs
      split at hs
      · rename_i init hinit
        generalize hSh : havoc an (written b) S = Sh at hs hinit
        have hΓh : Sh.Γ = S.Γ ++ an.tys.map fun t => (t, none) := by rw [← hSh]; rfl
        have hFh : Sh.F = S.F := by rw [← hSh]; rfl
        have hlenE : env.length = S.Γ.length := R.typed.1
        rw [← hlenE] at hinit
        obtain ⟨I, μ, hI, hround⟩ := hs
        have R' : Rel cf.glb w0 fp (env ++ []) ρ S a w := by rw [List.append_nil]; exact R
        obtain ⟨R0, hty0⟩ := backOk_rel R' R.typed hΓh (by rw [hFh]; exact R.facts) hinit
        rw [List.append_nil] at R0 hty0
        have hfph : fp.pn ≤ Sh.H.length := by
          rw [← hSh]
          have : ∀ (H : List Ht) (n i : Nat), (havocH an n H i).length = H.length := by
            intro H
            induction H with
            | nil => intro n i; rfl
            | cons h r ih => intro n i; cases h <;> simp [havocH, ih]
          simp only [havoc, this]
          exact hfp
        refine wp_loop_rounds (μ (init.map (ev env)) + 1) ?_
        have key : ∀ n vs ρ a w, TypedL an.tys vs → I vs → Rel cf.glb w0 fp (env ++ vs) ρ Sh a w → μ vs < n → Code.rounds cf.P b Q n a w := by
          intro n
          induction n with
          | zero => intro vs ρ a w _ _ _ h; omega
          | succ n ihn =>
            intro vs ρ a w hty hIv Rv hμ
            rw [rounds_succ]
            have hsat := hround vs hty hIv
            have hNl : (N.take d).length = d := by simp; omega
            refine ih bid (d + 1) Sh _ x (env ++ vs) _ ρ a w _ ?_ ?_ ?_ (by simp; omega) Rv hfph hsat
            · intro N' S' env' ρ' a' w' h1 h2 h3 h4 h5 h6
              show Code.rounds cf.P b Q n a' w'
              simp only [nextOf] at h6
              split at h6
              · rename_i vs' hvs'
                obtain ⟨more, hmore⟩ := h3
                subst hmore
                rw [← hlenE] at hvs'
                have R3 : Rel cf.glb w0 fp (env ++ (vs ++ more)) ρ' S' a' w' := by rw [← List.append_assoc]; exact h4
                obtain ⟨R4, hty4⟩ := backOk_rel R3 R.typed hΓh (by rw [hFh]; exact R.facts) hvs'
                have hNd : N'[d]? = some (fun vs' => I vs' ∧ μ vs' < μ vs) := by
                  have e1 : (N'.take (d + 1))[d]? = N'[d]? := by rw [List.getElem?_take_of_lt (Nat.lt_succ_self d)]
                  rw [← e1, h1, List.getElem?_take_of_lt (Nat.lt_succ_self d), List.getElem?_append_right (by omega), hNl, Nat.sub_self]
                  rfl
                simp only [sat, hNd] at h6
                rw [List.append_assoc] at h6
                exact ihn _ ρ' a' w' hty4 h6.1 R4 (by have := h6.2; omega)
              · exact h6.elim
            · intro i
              have h0 := (hx i).weak (N2 := N.take d ++ [fun vs' => I vs' ∧ μ vs' < μ vs]) (env2 := env ++ vs) (by rw [List.take_append_of_le_length (by omega), List.take_take, Nat.min_self]) (List.prefix_append _ _)
              exact h0.deep
            · exact hr.weak rfl (List.prefix_append _ _)
        exact key _ _ ρ a w hty0 hI R0 (by omega)
      · exact hs.elim
    · refine wp_loop_rounds 200 ?_
      have key : ∀ n S env N ρ a w, Says cf specs w0 fp K d N env k (Q .normal) → (∀ i, Says cf specs w0 fp K d N env (x i) (Q (.exit i))) → Says cf specs w0 fp K 0 N env fin (Q .ret) → d ≤ N.length → Rel cf.glb w0 fp env ρ S a w → fp.pn ≤ S.H.length →
          sat cf.P specs (loopN (fun S' k' => exec cf ann fin b bid d S' k' x) n S) env N K → Code.rounds cf.P b Q n a w := by
        intro n
        induction n with
        | zero => intro S env N ρ a w _ _ _ _ _ _ h; exact h.elim
        | succ n ihn =>
          intro S env N ρ a w hk hx hr hd R hfp hs
          rw [rounds_succ]
          simp only [loopN] at hs
          refine ih bid d S _ x env N ρ a w _ ?_ hx hr hd R hfp hs
          intro N' S' env' ρ' a' w' h1 h2 h3 h4 h5 h6
          exact ihn S' env' N' ρ' a' w' (hk.weak h1 h3) (fun i => (hx i).weak h1 h3) (hr.weak rfl h3) h2 h4 h5 h6
      exact key 200 S env N ρ a w hk hx hr hd R hfp hs
  | exit i =>
    intro bid d S k x env N ρ a w Q hk hx hr hd R hfp hs
    exact wp_exit (hx i N S env ρ a w rfl hd (List.prefix_refl _) R hfp hs)
  | ret =>
    intro bid d S k x env N ρ a w Q hk hx hr hd R hfp hs
    exact wp_ret (hr N S env ρ a w rfl (Nat.zero_le _) (List.prefix_refl _) R hfp hs)
  | scope b ih => intro bid d S k x env N ρ a w Q hk hx hr hd R hfp hs; exact hs.elim
  | goto l => intro bid d S k x env N ρ a w Q hk hx hr hd R hfp hs; exact hs.elim
  | refuse l => intro bid d S k x env N ρ a w Q hk hx hr hd R hfp hs; exact hs.elim
  | rangeFunc f ps as b _ _ => intro bid d S k x env N ρ a w Q hk hx hr hd R hfp hs; exact hs.elim
end
end Go.Sx

/- A contract from a tree. -/
namespace Go.Sx
open Go

def resOne (cf : Cfg) (S : St) : ResultVar → Option CV
  | .tmp t => (S.T.getD t .unk).under S.F
  | .cell a ty => match (S.T.getD a .unk).under S.F with
    | some (.s (.p (.own id) off)) => match (S.cx cf.glb [id]).row (.own id) with
      | some l => takeV cf.P ty l off
      | none => none
    | _ => none
def resAll (cf : Cfg) (S : St) : List ResultVar → Option (List CV)
  | [] => some []
  | r :: l => match resOne cf S r, resAll cf S l with
    | some c, some cs => some (c :: cs)
    | _, _ => none
def mRes (p : SV) (l : List CV) (m : Mt) : Option Mt :=
  match p, l with
  | .c p, [c] => mCV p c m
  | .tu ps, l => if Nat.beq l.length 1 then none else mCVs ps l m
  | .unk, _ => some m
  | _, _ => none
def ids0 : Nat → Nat → List Nat
  | _, 0 => []
  | k, n + 1 => k :: ids0 (k + 1) n
theorem ids0_get : ∀ (n k j : Nat), (ids0 k n)[j]? = if j < n then some (k + j) else none
  | 0, k, j => by simp [ids0]
  | n + 1, k, 0 => by simp [ids0]
  | n + 1, k, j + 1 => by
    simp only [ids0, List.getElem?_cons_succ, ids0_get n (k + 1) j, Nat.add_lt_add_iff_right]
    split
    · congr 1; omega
    · rfl
theorem ids0_length : ∀ (n k : Nat), (ids0 k n).length = n
  | 0, _ => rfl
  | n + 1, k => by simp [ids0, ids0_length n (k + 1)]
theorem ids0_mem : ∀ {n k x : Nat}, x ∈ ids0 k n → k ≤ x
  | 0, _, _, h => by cases h
  | n + 1, k, x, h => by
    simp only [ids0] at h
    rcases List.mem_cons.1 h with rfl | h
    · exact Nat.le_refl _
    · have := ids0_mem h; omega
theorem ids0_nodup : ∀ (n k : Nat), (ids0 k n).Nodup
  | 0, _ => List.nodup_nil
  | n + 1, k => by
    simp only [ids0, List.nodup_cons]
    exact ⟨fun h => by have := ids0_mem h; omega, ids0_nodup n (k + 1)⟩

/-- Slices that are handed back: they are new, and their content is known. -/
def isRow : Option Ty → Bool
  | some (.row _ _) => true
  | _ => false
def mOut (S : St) : List (Nat × Nat × Nat) → Mt → Option Mt
  | [], m => some m
  | (x, c, n) :: r, m => match m.vs[x]? with
    | some (.val (.slice none 0 0)) => if Nat.beq c m.vs.length then mOut S r { m with vs := m.vs ++ [.val (.agg #[])] } else none
    | some xe => match findG S.G xe n with
      | some ce => if Nat.beq c m.vs.length && S.X.fr.any (prBeq (xe, ce)) then mOut S r { m with vs := m.vs ++ [ce] } else none
      | none => none
    | none => none
/-- The slice that is handed back for the caller to append to. -/
def ownOut (S : St) (sig : Sig) (m : Mt) : Bool :=
  match sig.gown with
  | none => true
  | some (x, c, n, e) => match m.vs[x]?, m.vs[c]? with
    | some xe, some ce => sig.gout.any (fun g => Nat.beq x g.1 && Nat.beq c g.2.1 && Nat.beq n g.2.2) &&
      ((xe.beq (.val (.slice none 0 0)) && ce.beq (.val (.agg #[]))) || match S.X.ow with
        | some o => xe.beq o.x && ce.beq o.c && Nat.beq n o.n && Nat.beq e o.e
        | none => false)
    | _, _ => false
def finish (cf : Cfg) (fn : Func) (sig : Sig) (S : St) : Tr :=
  match resAll cf S fn.results.toList with
  | some l => match mRes sig.res l { vs := [], μ := ids0 0 sig.pre.length } with
    | some m => match mPre S.H sig.post 0 m with
      | some m => match mOut S sig.gout m with
        | some m => if Nat.beq m.μ.length sig.post.length && Nat.ble sig.pre.length sig.post.length && tysOkR S.Γ S.F m.vs sig.tout && ownOut S sig m then .ret m.vs else .fail 11
        | none => .fail 15
      | none => .fail 12
    | none => .fail 13
  | none => .fail 14

section
variable {cf : Cfg} {specs : List Spec} {w0 : World} {fp : Fp} {env : List Value} {ρ : Nat → Nat} {S : St} {a : Act} {w : World}

theorem resOne_ok (R : Rel cf.glb w0 fp env ρ S a w) {F : ResultVar → Sem Value} (f1 : ∀ t, F (.tmp t) = pure (a.tmps.getD t undef)) (f2 : ∀ x t, F (.cell x t) = (asAddr (a.tmps.getD x undef) >>= fun p => loadVar t p)) {r : ResultVar} {c : CV} (h : resOne cf S r = some c) : (F r).run cf.P w = .ok (c.val ρ env) w := by
  cases r with
  | tmp t =>
    simp only [resOne] at h
    rw [f1, Sem.run_pure, SV.under_is R.facts h (R.tmps.2 t)]
  | cell x t =>
    simp only [resOne] at h
    split at h
    · rename_i id off hs
      have hv := SV.under_is R.facts hs (R.tmps.2 x)
      split at h
      · rename_i l hl
        rw [f2, hv]
        simp only [CV.val, Sc.val, asAddr, Sem.run_bind, Sem.run_pure, Result.andThen_ok]
        exact run_loadVar_take h ((R.mok [id]).row hl)
      · cases h
    · cases h

theorem resAll_ok (R : Rel cf.glb w0 fp env ρ S a w) {F : ResultVar → Sem Value} (f1 : ∀ t, F (.tmp t) = pure (a.tmps.getD t undef)) (f2 : ∀ x t, F (.cell x t) = (asAddr (a.tmps.getD x undef) >>= fun p => loadVar t p)) : ∀ {l : List ResultVar} {cs : List CV}, resAll cf S l = some cs → (l.mapM F).run cf.P w = .ok (cs.map (CV.val ρ env)) w
  | [], cs, h => by cases h; rfl
  | r :: l, cs, h => by
    simp only [resAll] at h
    split at h
    · rename_i c cs' hc hl
      cases h
      rw [List.mapM_cons, Sem.run_bind, resOne_ok R f1 f2 hc, Result.andThen_ok, Sem.run_bind, resAll_ok R f1 f2 hl, Result.andThen_ok]
      rfl
    · cases h

def tupleOf (l : List Value) : Value := match l with
  | [v] => v
  | l => .tuple l.toArray

theorem results_ok (R : Rel cf.glb w0 fp env ρ S a w) {fn : Func} {cs : List CV} (h : resAll cf S fn.results.toList = some cs) : (results fn a.tmps).run cf.P w = .ok (tupleOf (cs.map (CV.val ρ env))) w := by
  unfold results
  rw [Array.mapM_eq_mapM_toList, ← bind_pure_comp, Sem.run_bind, Sem.run_bind, resAll_ok R (fun _ => rfl) (fun _ _ => rfl) h, Result.andThen_ok, Sem.run_pure, Result.andThen_ok, Sem.run_pure]
  congr 1
  cases cs with
  | nil => rfl
  | cons c r => cases r <;> rfl

theorem mRes_ok {p : SV} {l : List CV} {m m' : Mt} (h : mRes p l m = some m') : (m.μ.Nodup → m'.μ.Nodup) ∧ m.le m' ∧ ∀ F : Mt, m'.le F → p.is (at0 (F.μ.map ρ)) (F.vs.map (ev env)) (tupleOf (l.map (CV.val ρ env))) := by
  unfold mRes at h
  split at h
  · obtain ⟨i1, i2, i3⟩ := mCV_ok (ρ := ρ) (env := env) h
    exact ⟨i1, i2, fun F hF => by simp only [SV.is, List.map_cons, List.map_nil, tupleOf]; exact (i3 F hF).symm⟩
  · rename_i ps l'
    split at h
    · cases h
    · rename_i hl
      obtain ⟨i1, i2, i3⟩ := mCVs_ok (ρ := ρ) (env := env) h
      refine ⟨i1, i2, fun F hF => ?_⟩
      simp only [SV.is, i3 F hF]
      cases l with
      | nil => rfl
      | cons c r =>
        cases r with
        | nil => exact absurd rfl hl
        | cons c' r => rfl
  · cases h
    exact ⟨_root_.id, Mt.le_refl _, fun F hF => trivial⟩
  · cases h

theorem mOut_ok (R : Rel cf.glb w0 fp env ρ S a w) : ∀ {l : List (Nat × Nat × Nat)} {m m' : Mt}, mOut S l m = some m' → m'.μ = m.μ ∧ m.le m' ∧ ∀ F : Mt, m'.le F →
    ∀ x c n, (x, c, n) ∈ l → RowOk w ((F.vs.map (ev env)).getD x undef) ((F.vs.map (ev env)).getD c undef) n ∧
      (∀ k, BlkOf ((F.vs.map (ev env)).getD x undef) ((F.vs.map (ev env)).getD c undef) k → w0.heap.size ≤ k) ∧ ∀ id, alive S.H id = true → Apart ((F.vs.map (ev env)).getD x undef) ((F.vs.map (ev env)).getD c undef) (ρ id)
  | [], m, m', h => by cases h; exact ⟨rfl, Mt.le_refl _, fun F _ x c n hx => by cases hx⟩
  | (x, c, n) :: r, m, m', h => by
    have key : ∀ (xe ce : Ex), m.vs[x]? = some xe → Nat.beq c m.vs.length = true → mOut S r { m with vs := m.vs ++ [ce] } = some m' →
        (RowOk w (ev env xe) (ev env ce) n ∧ (∀ k, BlkOf (ev env xe) (ev env ce) k → w0.heap.size ≤ k) ∧ ∀ id, alive S.H id = true → Apart (ev env xe) (ev env ce) (ρ id)) →
        m'.μ = m.μ ∧ m.le m' ∧ ∀ F : Mt, m'.le F → ∀ x' c' n', (x', c', n') ∈ (x, c, n) :: r → RowOk w ((F.vs.map (ev env)).getD x' undef) ((F.vs.map (ev env)).getD c' undef) n' ∧
      (∀ k, BlkOf ((F.vs.map (ev env)).getD x' undef) ((F.vs.map (ev env)).getD c' undef) k → w0.heap.size ≤ k) ∧ ∀ id, alive S.H id = true → Apart ((F.vs.map (ev env)).getD x' undef) ((F.vs.map (ev env)).getD c' undef) (ρ id) := by
      intro xe ce hx hc hm hk
      obtain ⟨i1, i2, i3⟩ := mOut_ok R hm
      have hle : m.le { m with vs := m.vs ++ [ce] } := ⟨List.prefix_append _ _, List.prefix_refl _⟩
      refine ⟨i1, hle.le_trans i2, fun F hF x' c' n' hx' => ?_⟩
      rcases List.mem_cons.1 hx' with hx' | hx'
      · cases hx'
        have hc := Nat.eq_of_beq_eq_true hc
        have g1 : F.vs[x]? = some xe := prefix_get ((hle.le_trans i2).le_trans hF).1 hx
        have g2 : F.vs[c]? = some ce := prefix_get (i2.le_trans hF).1 (by rw [hc]; simp)
        have f1 : (F.vs.map (ev env)).getD x undef = ev env xe := by simp [List.getD, g1]
        have f2 : (F.vs.map (ev env)).getD c undef = ev env ce := by simp [List.getD, g2]
        rw [f1, f2]
        exact hk
      · exact i3 F hF x' c' n' hx'
    simp only [mOut] at h
    split at h
    · rename_i hx
      split at h
      · rename_i hc
        have hno : ∀ k, ¬ BlkOf (ev env (.val (.slice none 0 0))) (ev env (.val (.agg #[]))) k := by
          rintro k (⟨b, len, cap, e, _⟩ | ⟨u, hu, _⟩)
          · simp [ev] at e
          · simp [ev, Value.cells] at hu
        exact key _ _ hx hc h ⟨⟨#[], rfl, .inl ⟨0, rfl, rfl⟩, fun v hv => by simp at hv⟩, (fun k hb => absurd hb (hno k)), (fun id _ => hno _)⟩
      · cases h
    · rename_i xe _ hx
      split at h
      · rename_i ce hce
        split at h
        · rename_i hc
          simp only [Bool.and_eq_true] at hc
          obtain ⟨z, hz1, hz2⟩ := List.any_eq_true.1 hc.2
          rw [← prBeq_eq hz2] at hz1
          obtain ⟨r1, r2⟩ := R.rows _ _ _ (findG_mem hce)
          exact key xe ce hx hc.1 h ⟨r1, (R.ox.fresh _ hz1).2, r2⟩
        · cases h
      · cases h
    · cases h

theorem mOut_Q {Q : Value → Value → Nat → Prop} (hG : ∀ x c n, (x, c, n) ∈ S.G → Q (ev env x) (ev env c) n) (h0 : ∀ n, Q (.slice none 0 0) (.agg #[]) n) :
    ∀ {l : List (Nat × Nat × Nat)} {m m' : Mt}, mOut S l m = some m' → ∀ F : Mt, m'.le F → ∀ x c n, (x, c, n) ∈ l → Q ((F.vs.map (ev env)).getD x undef) ((F.vs.map (ev env)).getD c undef) n
  | [], m, m', h, F, hF, x, c, n, hx => by cases hx
  | (x, c, n) :: r, m, m', h, F, hF, x', c', n', hx' => by
    have mle : ∀ {l : List (Nat × Nat × Nat)} {m m' : Mt}, mOut S l m = some m' → m.le m' := by
      intro l
      induction l with
      | nil => intro m m' h; cases h; exact Mt.le_refl _
      | cons p r ih =>
        obtain ⟨x, c, n⟩ := p
        intro m m' h
        simp only [mOut] at h
        split at h
        · split at h
          · refine Mt.le.le_trans ?_ (ih h)
            exact ⟨List.prefix_append _ _, List.prefix_refl _⟩
          · cases h
        · split at h
          · split at h
            · refine Mt.le.le_trans ?_ (ih h)
              exact ⟨List.prefix_append _ _, List.prefix_refl _⟩
            · cases h
          · cases h
        · cases h
    have key : ∀ (xe ce : Ex), m.vs[x]? = some xe → Nat.beq c m.vs.length = true → mOut S r { m with vs := m.vs ++ [ce] } = some m' → Q (ev env xe) (ev env ce) n →
        Q ((F.vs.map (ev env)).getD x' undef) ((F.vs.map (ev env)).getD c' undef) n' := by
      intro xe ce hx hc hm hk
      rcases List.mem_cons.1 hx' with hx' | hx'
      · cases hx'
        have hc := Nat.eq_of_beq_eq_true hc
        have hle : m.le { m with vs := m.vs ++ [ce] } := ⟨List.prefix_append _ _, List.prefix_refl _⟩
        have i2 := mle hm
        have g1 : F.vs[x]? = some xe := prefix_get ((hle.le_trans i2).le_trans hF).1 hx
        have g2 : F.vs[c]? = some ce := prefix_get (i2.le_trans hF).1 (by rw [hc]; simp)
        have f1 : (F.vs.map (ev env)).getD x undef = ev env xe := by simp [List.getD, g1]
        have f2 : (F.vs.map (ev env)).getD c undef = ev env ce := by simp [List.getD, g2]
        rw [f1, f2]
        exact hk
      · exact mOut_Q hG h0 hm F hF x' c' n' hx'
    simp only [mOut] at h
    split at h
    · rename_i hx
      split at h
      · rename_i hc
        exact key _ _ hx hc h (h0 n)
      · cases h
    · rename_i xe _ hx
      split at h
      · rename_i ce hce
        split at h
        · rename_i hc
          simp only [Bool.and_eq_true] at hc
          exact key xe ce hx hc.1 h (hG _ _ _ (findG_mem hce))
        · cases h
      · cases h
    · cases h

/-- **At the end**: what the contract says. -/
theorem finish_ok {bs : List Nat} (R : Rel cf.glb w0 ⟨bs, bs.length⟩ env ρ S a w) {fn : Func} {sig : Sig} (hbs : bs.length = sig.pre.length) {N : List (List Value → Prop)} {K : List Value → Prop} (hs : sat cf.P specs (finish cf fn sig S) env N K) :
    a.defers = [] ∧ ∃ v, (results fn a.tmps).run cf.P w = .ok v w ∧ ∃ outs bs', Left' sig bs K w0 outs bs' v w := by
  refine ⟨R.defers, ?_⟩
  unfold finish at hs
  split at hs
  · rename_i l hl
    refine ⟨_, results_ok R hl, ?_⟩
    split at hs
    · rename_i m1 h1
      split at hs
      · rename_i m0 h2
        split at hs
        rotate_left
        · exact hs.elim
        rename_i m h4
        obtain ⟨d1, d2, d3⟩ := mOut_ok R h4
        split at hs
        · rename_i hc
          simp only [Bool.and_eq_true] at hc
          obtain ⟨⟨⟨c1, c2⟩, c3⟩, c4⟩ := hc
          have h2' := h2
          have c1 := Nat.eq_of_beq_eq_true c1
          have c2 := Nat.le_of_ble_eq_true c2
          obtain ⟨a1, a2, a3⟩ := mRes_ok (ρ := ρ) (env := env) h1
          obtain ⟨b1, b2, b3⟩ := mPre_ok (ρ := ρ) (env := env) h2
          have hnd : m.μ.Nodup := by rw [d1]; exact b1 (a1 (ids0_nodup _ _))
          have hpre : ∀ k, k < bs.length → m.μ[k]? = some k := by
            intro k hk
            have := prefix_get ((a2.le_trans b2).le_trans d2).2 (k := k) (a := k) (by simp only [ids0_get]; rw [if_pos (by omega)]; simp)
            exact this
          have hal : ∀ id ∈ m.μ, alive S.H id = true := by
            intro id hid
            obtain ⟨k, hk⟩ := List.getElem?_of_mem hid
            have hkl : k < sig.post.length := by rw [← c1]; exact (List.getElem?_eq_some_iff.1 hk).1
            obtain ⟨id', b', e1, e2, e3⟩ := b3 m d2 k _ (List.getElem?_eq_getElem hkl)
            simp only [Nat.zero_add] at e1
            rw [hk] at e1
            cases e1
            exact alive_of e2
          refine ⟨m.vs.map (ev env), m.μ.map ρ, ?_⟩
          refine
            { post := hs
              typed := tysOkR_ok R.typed R.facts c3
              len := by simp [c1]
              old := ?_
              new := ?_
              nodup := ?_
              res := a3 m (b2.le_trans d2)
              blk := ?_
              rows := ?_
              os := R.os
              tape := R.tape
              output := R.output
              size := R.size
              frame := R.frame
              owns := ?_ }
          · intro k hk
            rw [at0_map (hpre k hk), R.fpr k hk]
            rfl
          · intro k hk hk'
            simp only [List.length_map] at hk'
            have e := List.getElem?_eq_getElem hk'
            rw [at0_map e]
            rcases R.own _ (hal _ (List.mem_of_getElem? e)) with h | h
            · exfalso
              obtain ⟨k2, hk2⟩ := List.getElem?_of_mem h
              have hk2l : k2 < bs.length := (List.getElem?_eq_some_iff.1 hk2).1
              have e2 := hpre k2 hk2l
              have hρ : ρ k2 = ρ m.μ[k] := by
                rw [R.fpr k2 hk2l]
                simp [List.getD, hk2]
              have hid := R.inj _ _ (hal _ (List.mem_of_getElem? e2)) (hal _ (List.mem_of_getElem? e)) hρ
              rw [← hid] at e
              have hk2m := (List.getElem?_eq_some_iff.1 e2).1
              have e3 := (List.getElem?_eq_some_iff.1 e2).2
              have e4 := (List.getElem?_eq_some_iff.1 e).2
              have := (List.getElem_inj hnd).1 (e3.trans e4.symm)
              omega
            · exact h
          · rw [List.nodup_iff_pairwise_ne, List.pairwise_map]
            exact (List.nodup_iff_pairwise_ne.1 hnd).imp_of_mem fun {x y} hx hy hne he => hne (R.inj x y (hal x hx) (hal y hy) he)
          · intro k b hb
            obtain ⟨id', b', e1, e2, e3⟩ := b3 m d2 k b hb
            simp only [Nat.zero_add] at e1
            rw [at0_map e1, e3]
            exact R.heap id' b' e2
          · intro x c n hx
            obtain ⟨r1, r2, r3⟩ := d3 m (Mt.le_refl _) x c n hx
            refine ⟨r1, fun k hb => ⟨r2 k hb, fun hmem => ?_⟩⟩
            obtain ⟨id, hid, he⟩ := List.mem_map.1 hmem
            exact r3 id (hal id hid) (by rw [he]; exact hb)
          · intro x c n e hg
            unfold ownOut at c4
            rw [hg] at c4
            dsimp only at c4
            split at c4
            · rename_i xe ce hx hce
              simp only [Bool.and_eq_true, Bool.or_eq_true] at c4
              obtain ⟨c4, c5⟩ := c4
              have gx : (m.vs.map (ev env)).getD x undef = ev env xe := by simp [List.getD, hx]
              have gc : (m.vs.map (ev env)).getD c undef = ev env ce := by simp [List.getD, hce]
              refine ⟨?_, ?_⟩
              · obtain ⟨g, hg1, hg2⟩ := List.any_eq_true.1 c4
                simp only [Bool.and_eq_true] at hg2
                rw [Nat.eq_of_beq_eq_true hg2.1.1, Nat.eq_of_beq_eq_true hg2.1.2, Nat.eq_of_beq_eq_true hg2.2]
                exact hg1
              · unfold OwnR
                rw [gx, gc]
                rcases c5 with ⟨q1, q2⟩ | c5
                · rw [Ex.beq_eq q1, Ex.beq_eq q2]
                  exact ⟨0, [], rfl, World.ownsRow_nil w _ e n, fun k hk => by simp [ev, Value.ownBlock] at hk⟩
                · split at c5
                  · rename_i o ho
                    simp only [Bool.and_eq_true] at c5
                    obtain ⟨_, _, len, xs, t1, t2, t3⟩ := R.ox.owned o ho
                    rw [Ex.beq_eq c5.1.1.1, Ex.beq_eq c5.1.1.2, Nat.eq_of_beq_eq_true c5.1.2, Nat.eq_of_beq_eq_true c5.2]
                    refine ⟨len, xs, t1, t2, fun k hk => ?_⟩
                    obtain ⟨t4, t5⟩ := t3 k hk
                    refine ⟨fun hmem => ?_, fun x' c' n' hx' => ?_⟩
                    · obtain ⟨id, hid, he⟩ := List.mem_map.1 hmem
                      exact t4 id (hal id hid) he
                    · exact mOut_Q (Q := fun x c n' => (∀ a' len' cap', x = .slice (some a') len' cap' → a'.block = k → a'.off + len' * n' ≤ len * o.n ∧ n' = o.n) ∧ ¬ InBlk c k) t5
                        (fun n => ⟨(fun a' len' cap' ea => by cases ea), (by rintro ⟨u, hu, _⟩; simp [Value.cells] at hu)⟩) h4 m (Mt.le_refl _) x' c' n' hx'
                  · cases c5
            · cases c4
        · exact hs.elim
      · exact hs.elim
    · exact hs.elim
  · exact hs.elim

/-! the start -/
def undefs : Nat → List SV
  | 0 => []
  | n + 1 => .unk :: undefs n
def cvSV : List CV → List SV
  | [] => []
  | c :: r => .c c :: cvSV r
def blHt : List Blk → List Ht
  | [] => []
  | b :: r => .bl b :: blHt r
def tyCtx : List Ty → Ctx
  | [] => []
  | t :: r => (t, none) :: tyCtx r
def ghCtx : List (Nat × Nat × Nat) → List (Ex × Ex × Nat)
  | [] => []
  | (x, c, n) :: r => (.var x, .var c, n) :: ghCtx r
def start (fn : Func) (sig : Sig) : St :=
  { T := cvSV sig.args ++ undefs (fn.ntmps - sig.args.length), H := blHt sig.pre, Γ := tyCtx sig.tin, F := [], G := ghCtx sig.gin }
def sigOk (fn : Func) (sig : Sig) : Bool :=
  tsWf (alive (blHt sig.pre)) sig.tin.length (start fn sig).T && blksWf (alive (blHt sig.pre)) sig.tin.length (blHt sig.pre) && gOk sig.tin.length sig.gin

theorem cvSV_get : ∀ (l : List CV) (t : Nat), (cvSV l)[t]? = (l[t]?).map .c
  | [], t => by simp [cvSV]
  | c :: r, 0 => rfl
  | c :: r, t + 1 => by simpa [cvSV] using cvSV_get r t
theorem cvSV_length : ∀ (l : List CV), (cvSV l).length = l.length
  | [] => rfl
  | c :: r => by simp [cvSV, cvSV_length r]
theorem undefs_length : ∀ n, (undefs n).length = n
  | 0 => rfl
  | n + 1 => by simp [undefs, undefs_length n]
theorem undefs_getD : ∀ n t, (undefs n).getD t .unk = .unk
  | 0, t => by simp [undefs]
  | n + 1, 0 => rfl
  | n + 1, t + 1 => by simpa [undefs] using undefs_getD n t
theorem blHt_hget : ∀ (l : List Blk) (k : Nat), hget (blHt l) k = l[k]?
  | [], k => by simp [blHt, hget, hat]
  | b :: r, 0 => by simp [blHt, hget, hat]
  | b :: r, k + 1 => by
    have := blHt_hget r k
    simpa [blHt, hget, hat] using this
theorem blHt_alive : ∀ {l : List Blk} {k : Nat}, alive (blHt l) k = true → k < l.length
  | [], k, h => by simp [blHt, alive, hat] at h
  | b :: r, 0, _ => by simp
  | b :: r, k + 1, h => by
    have := blHt_alive (l := r) (k := k) (by simpa [blHt, alive, hat] using h)
    simp; omega
theorem blHt_length : ∀ (l : List Blk), (blHt l).length = l.length
  | [] => rfl
  | b :: r => by simp [blHt, blHt_length r]
theorem tyCtx_get : ∀ (l : List Ty) (n : Nat), (tyCtx l)[n]? = (l[n]?).map fun t => (t, none)
  | [], n => by simp [tyCtx]
  | t :: r, 0 => rfl
  | t :: r, n + 1 => by simpa [tyCtx] using tyCtx_get r n
theorem tyCtx_length : ∀ (l : List Ty), (tyCtx l).length = l.length
  | [] => rfl
  | t :: r => by simp [tyCtx, tyCtx_length r]
theorem ghCtx_mem : ∀ {l : List (Nat × Nat × Nat)} {x c : Ex} {n : Nat}, (x, c, n) ∈ ghCtx l → ∃ i j, (i, j, n) ∈ l ∧ x = .var i ∧ c = .var j
  | [], _, _, _, h => by cases h
  | (i, j, m) :: r, x, c, n, h => by
    simp only [ghCtx] at h
    rcases List.mem_cons.1 h with h | h
    · cases h; exact ⟨i, j, List.mem_cons_self, rfl, rfl⟩
    · obtain ⟨i', j', h1, h2, h3⟩ := ghCtx_mem h
      exact ⟨i', j', List.mem_cons_of_mem _ h1, h2, h3⟩

theorem start_rel {sig : Sig} {fn : Func} {bs : List Nat} {ins : List Value} (hsg : sigOk fn sig = true) (g : Given cf.glb sig bs ins w) :
    Rel cf.glb w ⟨bs, bs.length⟩ ins (at0 bs) (start fn sig) { tmps := (sig.args.map (CV.val (at0 bs) ins)).toArray ++ Array.replicate (fn.ntmps - (sig.args.map (CV.val (at0 bs) ins)).toArray.size) undef, defers := [] } w := by
  simp only [sigOk, Bool.and_eq_true] at hsg
  obtain ⟨⟨w1, w2⟩, w3⟩ := hsg
  have hlen : ins.length = sig.tin.length := g.typed.1
  have hin : ∀ k, k < sig.pre.length → at0 bs k ∈ bs := by
    intro k hk
    have : k < bs.length := by rw [g.len]; exact hk
    simp only [at0, List.getD, List.getElem?_eq_getElem this, Option.getD_some]
    exact List.getElem_mem this
  have hlt : ∀ k, k < sig.pre.length → at0 bs k < w.heap.size := by
    intro k hk
    exact (Array.getElem?_eq_some_iff.1 (g.blk k _ (List.getElem?_eq_getElem hk))).1
  refine
    { tmps := ⟨?_, ?_⟩
      defers := rfl
      typed := ⟨by simp only [start, tyCtx_length]; exact hlen, ?_⟩
      facts := fun x hx => by cases hx
      heap := ?_
      inj := ?_
      own := fun id h => .inl (hin id (blHt_alive h))
      fpr := fun k _ => rfl
      lt := fun id h => hlt id (blHt_alive h)
      rows := ?_
      glob := g.glob
      globfp := g.globbs
      os := rfl
      tape := rfl
      output := rfl
      size := Nat.le_refl _
      frame := fun _ _ _ => rfl
      wfT := by rw [hlen]; exact tsWf_get w1
      wfH := by rw [hlen]; exact blksWf_get w2
      wfF := fun x hx => by cases hx
      wfG := ?_
      wfΓ := ?_
      ox := XOk.zero }
  · simp [start, cvSV_length, undefs_length]
  · intro t
    rcases Nat.lt_or_ge t sig.args.length with h | h
    · have e1 : (start fn sig).T.getD t .unk = .c sig.args[t] := by
        simp only [start, List.getD]
        rw [List.getElem?_append_left (by rw [cvSV_length]; exact h), cvSV_get, List.getElem?_eq_getElem h]
        rfl
      rw [e1]
      simp only [SV.is]
      rw [Array.getD_eq_getD_getElem?, Array.getElem?_append_left (by simp; exact h)]
      simp [h]
    · have e1 : (start fn sig).T.getD t .unk = .unk := by
        simp only [start]
        have := undefs_getD (fn.ntmps - sig.args.length) (t - sig.args.length)
        simp only [List.getD] at this ⊢
        rw [List.getElem?_append_right (by rw [cvSV_length]; exact h), cvSV_length]
        exact this
      rw [e1]
      trivial
  · intro n t g' hn hx
    simp only [start, tyCtx_get, Option.map_eq_some_iff] at hn
    obtain ⟨t', ht', he⟩ := hn
    cases he
    exact g.typed.2 n _ ht'
  · intro id b hb
    simp only [start, blHt_hget] at hb
    exact g.blk id b hb
  · intro i j hi hj he
    have h1 : i < bs.length := by rw [g.len]; exact blHt_alive hi
    have h2 : j < bs.length := by rw [g.len]; exact blHt_alive hj
    simp only [at0, List.getD, List.getElem?_eq_getElem h1, List.getElem?_eq_getElem h2, Option.getD_some] at he
    exact (List.getElem_inj g.nodup).1 he
  · intro x c n hx
    obtain ⟨i, j, h1, rfl, rfl⟩ := ghCtx_mem hx
    obtain ⟨r1, r2⟩ := g.rows i j n h1
    exact ⟨r1, fun id hid => r2 _ (hin id (blHt_alive hid))⟩
  · intro x c n hx
    obtain ⟨i, j, h1, rfl, rfl⟩ := ghCtx_mem hx
    obtain ⟨q1, q2⟩ := gOk_mem w3 i j n h1
    rw [hlen]
    exact ⟨Nat.ble_eq_true_of_le q1, Nat.ble_eq_true_of_le q2⟩
  · intro n t g' hn
    simp only [start, tyCtx_get, Option.map_eq_some_iff] at hn
    obtain ⟨t', _, he⟩ := hn
    cases he

def run (cf : Cfg) (ann : List (Nat × Ann)) (fn : Func) (sig : Sig) (c : Code) : Tr :=
  if sigOk fn sig then exec cf ann (finish cf fn sig) c 0 0 (start fn sig) (finish cf fn sig) (fun _ _ => .fail 20) else .fail 21

/-- **A contract from a tree.** -/
theorem conOK_of (hΩ : ΩOK cf specs) (hm : cf.P.follows .mixedOrders = true) {f : Nat} {fn : Func} {c : Code} (hf : cf.P.funcs[f]? = some fn) (hb : fn.body = some c) {ann : List (Nat × Ann)} {sig : Sig} {spec : Spec} {t : Tr}
    (ht : run cf ann fn sig c = t) (hs : ∀ ins K, TypedL sig.tin ins → spec ins K → sat cf.P specs t ins [] K) : ConOK cf.P cf.glb f sig spec := by
  intro w bs ins K g hK
  have hsat := hs ins K g.typed hK
  rw [← ht] at hsat
  unfold run at hsat
  split at hsat
  · rename_i hsg
    refine calls_of_wp hf hb ?_
    have R := start_rel hsg g
    have hfin : ∀ (e : Exit), (e = .normal ∨ e = .ret) → Says cf specs w ⟨bs, bs.length⟩ K 0 [] ins (finish cf fn sig) (bodyPost cf.P fn (fun e w' => ∃ outs bs' v, e = .returned v ∧ Left' sig bs K w outs bs' v w') e) := by
      intro e he N' S' env' ρ' a' w' _ _ _ R' _ hs'
      obtain ⟨h1, v, h2, outs, bs', h3⟩ := finish_ok R' g.len hs'
      rcases he with rfl | rfl
      · exact ⟨h1, v, h2, outs, bs', v, rfl, h3⟩
      · exact ⟨h1, v, h2, outs, bs', v, rfl, h3⟩
    refine exec_sound hΩ hm c 0 0 _ _ _ ins [] _ _ _ _ (hfin .normal (.inl rfl)) ?_ (hfin .ret (.inr rfl)) (Nat.le_refl _) R ?_ hsat
    · intro i N' S' env' ρ' a' w' _ _ _ _ _ h
      exact h.elim
    · simp only [start, blHt_length, g.len]
      exact Nat.le_refl _
  · exact hsat.elim
end
end Go.Sx

/- Trees that are mere reckoning: what they give. -/
namespace Go.Sx
open Go

/-- A callee's reckoning, and where it is meant. -/
structure Fun1 where
  pre : List Value → Prop
  out : List Value → List Value
def Fun1.spec (F : Fun1) : Spec := fun ins K => F.pre ins ∧ K (F.out ins)
def specsOf : List Fun1 → List Spec
  | [] => []
  | F :: r => F.spec :: specsOf r
def callF : List Fun1 → Nat → List Value → List Value
  | [], _, _ => []
  | F :: _, 0, ins => F.out ins
  | _ :: r, k + 1, ins => callF r k ins
def preF : List Fun1 → Nat → List Value → Prop
  | [], _, _ => False
  | F :: _, 0, ins => F.pre ins
  | _ :: r, k + 1, ins => preF r k ins

def hasF : List Fun1 → Nat → Prop
  | [], _ => False
  | _ :: _, 0 => True
  | _ :: r, k + 1 => hasF r k
theorem hasF_spec : ∀ (Fs : List Fun1) (k : Nat), hasF Fs k → ∃ sp, (specsOf Fs)[k]? = some sp
  | [], _, h => h.elim
  | F :: _, 0, _ => ⟨F.spec, rfl⟩
  | _ :: r, k + 1, h => by obtain ⟨sp, h1⟩ := hasF_spec r k h; exact ⟨sp, by simpa [specsOf] using h1⟩

def evsIn (env : List Value) : List Ex → List Value
  | [] => []
  | x :: r => ev env x :: evsIn env r
theorem evsIn_eq (env : List Value) : ∀ l : List Ex, evsIn env l = l.map (ev env)
  | [] => rfl
  | x :: r => by simp [evsIn, evsIn_eq env r]

def evalE (Fs : List Fun1) : List Evn → List Value → List Value
  | [], env => env
  | .need _ :: r, env => evalE Fs r env
  | .call k ins none _ :: r, env => evalE Fs r (env ++ callF Fs k (evsIn env ins))
  | .call k ins (some g) n :: r, env => evalE Fs r (env ++ (if toB (ev env g) = true then callF Fs k (evsIn env ins) else List.replicate n undef))
  | .prim _ _ :: r, env => evalE Fs r env
  | .app _ _ _ :: r, env => evalE Fs r env
def needs (env : List Value) : List Ex → Prop
  | [] => True
  | x :: r => ev env x = .bool true ∧ needs env r
theorem needs_all {env : List Value} : ∀ {l : List Ex}, needs env l → AllTrue env l
  | [], _, x, hx => by cases hx
  | y :: r, h, x, hx => by
    rcases List.mem_cons.1 hx with rfl | hx
    · exact h.1
    · exact needs_all h.2 x hx
def okE (Fs : List Fun1) : List Evn → List Value → Prop
  | [], _ => True
  | .need nd :: r, env => needs env nd ∧ okE Fs r env
  | .call k ins none _ :: r, env => preF Fs k (evsIn env ins) ∧ okE Fs r (env ++ callF Fs k (evsIn env ins))
  | .call k ins (some g) n :: r, env => hasF Fs k ∧ (toB (ev env g) = true → preF Fs k (evsIn env ins)) ∧ okE Fs r (env ++ (if toB (ev env g) = true then callF Fs k (evsIn env ins) else List.replicate n undef))
  | .prim _ _ :: _, _ => False
  | .app _ _ _ :: _, _ => False
def evalT (Fs : List Fun1) : Tr → List Value → List Value
  | .fail _, _ => []
  | .evs l t, env => evalT Fs t (evalE Fs l env)
  | .ite c a b, env => if toB (ev env c) = true then evalT Fs a env else evalT Fs b env
  | .ret vs, env => evsIn env vs
  | .lp _ _ _ _, _ => []
  | .next _ _, _ => []
def okT (Fs : List Fun1) : Tr → List Value → Prop
  | .fail _, _ => False
  | .evs l t, env => okE Fs l env ∧ okT Fs t (evalE Fs l env)
  | .ite c a b, env => if toB (ev env c) = true then okT Fs a env else okT Fs b env
  | .ret _, _ => True
  | .lp _ _ _ _, _ => False
  | .next _ _, _ => False

theorem specsOf_get : ∀ (Fs : List Fun1) (k : Nat) (ins : List Value) (K : List Value → Prop), preF Fs k ins → K (callF Fs k ins) → ∃ sp, (specsOf Fs)[k]? = some sp ∧ sp ins K
  | [], _, _, _, h, _ => h.elim
  | F :: r, 0, ins, K, h, hK => ⟨F.spec, rfl, h, hK⟩
  | F :: r, k + 1, ins, K, h, hK => by
    obtain ⟨sp, h1, h2⟩ := specsOf_get r k ins K h hK
    exact ⟨sp, by simpa [specsOf] using h1, h2⟩
theorem specsOf_some : ∀ (Fs : List Fun1) (k : Nat) (sp : Spec), (specsOf Fs)[k]? = some sp → ∀ (ins : List Value) (K : List Value → Prop), (preF Fs k ins ∧ K (callF Fs k ins)) → sp ins K
  | [], _, _, h, _, _, _ => by simp [specsOf] at h
  | F :: r, 0, sp, h, ins, K, hK => by simp [specsOf] at h; subst h; exact hK
  | F :: r, k + 1, sp, h, ins, K, hK => specsOf_some r k sp (by simpa [specsOf] using h) ins K hK

theorem evSat_eval {P : Program} {Fs : List Fun1} {K : List Value → Prop} : ∀ (l : List Evn) (env : List Value), okE Fs l env → K (evalE Fs l env) → evSat P (specsOf Fs) l env K
  | [], env, _, hK => hK
  | .need nd :: r, env, h, hK => ⟨needs_all h.1, evSat_eval r env h.2 hK⟩
  | .call k ins none n :: r, env, h, hK => by
    simp only [okE, evalE, evsIn_eq] at h hK
    obtain ⟨sp, h1, h2⟩ := specsOf_get Fs k (ins.map (ev env)) (fun outs => evSat P (specsOf Fs) r (env ++ outs) K) h.1 (evSat_eval r _ h.2 hK)
    simp only [evSat, h1]
    exact h2
  | .call k ins (some g) n :: r, env, h, hK => by
    simp only [okE, evalE, evsIn_eq] at h hK
    obtain ⟨hf, hp, hr⟩ := h
    obtain ⟨sp, hsp⟩ := hasF_spec Fs k hf
    have hrec := evSat_eval (P := P) r _ hr hK
    simp only [evSat, hsp]
    refine ⟨fun hg => ?_, fun hg => ?_⟩
    · rw [if_pos hg] at hrec
      exact specsOf_some Fs k sp hsp _ _ ⟨hp hg, hrec⟩
    · rw [if_neg (by rw [hg]; simp)] at hrec
      exact hrec
  | .prim _ _ :: r, env, h, hK => h.elim
  | .app _ _ _ :: r, env, h, hK => h.elim

theorem sat_eval {P : Program} {Fs : List Fun1} {K : List Value → Prop} : ∀ (t : Tr) (env : List Value) (N : List (List Value → Prop)), okT Fs t env → K (evalT Fs t env) → sat P (specsOf Fs) t env N K
  | .fail _, _, _, h, _ => h.elim
  | .evs l t, env, N, h, hK => evSat_eval l env h.1 (sat_eval t _ N h.2 hK)
  | .ite c a b, env, N, h, hK => by
    simp only [okT, evalT] at h hK
    refine ⟨fun hc => ?_, fun hc => ?_⟩
    · rw [hc] at h hK
      exact sat_eval a env N h hK
    · rw [hc] at h hK
      exact sat_eval b env N h hK
  | .ret vs, env, N, h, hK => by
    simp only [evalT, evsIn_eq] at hK
    exact hK
  | .lp _ _ _ _, _, _, h, _ => h.elim
  | .next _ _, _, _, h, _ => h.elim

/-- The reckoning that a tree is. -/
def ofTree (Fs : List Fun1) (t : Tr) : Fun1 := ⟨okT Fs t, evalT Fs t⟩

theorem conOK_tree {cf : Cfg} {Fs : List Fun1} (hΩ : ΩOK cf (specsOf Fs)) (hm : cf.P.follows .mixedOrders = true) {f : Nat} {fn : Func} {c : Code} (hf : cf.P.funcs[f]? = some fn) (hb : fn.body = some c) {ann : List (Nat × Ann)} {sig : Sig} {t : Tr}
    (ht : run cf ann fn sig c = t) : ConOK cf.P cf.glb f sig (ofTree Fs t).spec :=
  conOK_of hΩ hm hf hb ht fun ins _ _ h => sat_eval t ins [] h.1 h.2

/-- Another way to say what a function reckons. -/
theorem ConOK.as {P : Program} {glb : List (Nat × List Sc)} {f : Nat} {sig : Sig} {F : Fun1} (h : ConOK P glb f sig F.spec) {G : Fun1} (hG : ∀ ins, TypedL sig.tin ins → G.pre ins → F.pre ins ∧ F.out ins = G.out ins) : ConOK P glb f sig G.spec := by
  intro w bs ins K g hK
  obtain ⟨h1, h2⟩ := hG ins g.typed hK.1
  exact h w bs ins K g ⟨h1, by rw [h2]; exact hK.2⟩

theorem ΩOK_nil {P : Program} {glb : List (Nat × List Sc)} : ΩOK ⟨P, glb, []⟩ (specsOf []) := fun k f sig h => by simp at h
theorem ΩOK_cons {P : Program} {glb : List (Nat × List Sc)} {l : List (Nat × Sig)} {Fs : List Fun1} {f : Nat} {sig : Sig} {F : Fun1} (hc : ConOK P glb f sig F.spec) (he : Enters P f) (h : ΩOK ⟨P, glb, l⟩ (specsOf Fs)) : ΩOK ⟨P, glb, (f, sig) :: l⟩ (specsOf (F :: Fs)) := by
  intro k f' sig' hk
  cases k with
  | zero => simp at hk; obtain ⟨rfl, rfl⟩ := hk; exact ⟨F.spec, rfl, hc, he⟩
  | succ k =>
    obtain ⟨sp, h1, h2, h3⟩ := h k f' sig' (by simpa using hk)
    exact ⟨sp, by simpa [specsOf] using h1, h2, h3⟩
end Go.Sx

/- Numbers: the greatest common divisor as the loops reckon it; typed lists taken apart. -/
namespace Go.Sx
open Go

theorem TypedL_cons {t : Ty} {ts : List Ty} {vs : List Value} (h : TypedL (t :: ts) vs) : ∃ v r, vs = v :: r ∧ HasTy t v ∧ TypedL ts r := by
  obtain ⟨h1, h2⟩ := h
  cases vs with
  | nil => simp at h1
  | cons v r => exact ⟨v, r, rfl, h2 0 t rfl, by simpa using h1, fun n t' hn => by simpa using h2 (n + 1) t' (by simpa using hn)⟩
theorem TypedL_nil {vs : List Value} (h : TypedL [] vs) : vs = [] := by
  cases vs with
  | nil => rfl
  | cons v r => simp [TypedL] at h
theorem TypedL_nil' : TypedL [] [] := ⟨rfl, fun n t h => by simp at h⟩
theorem TypedL_cons' {t : Ty} {ts : List Ty} {v : Value} {r : List Value} (h1 : HasTy t v) (h2 : TypedL ts r) : TypedL (t :: ts) (v :: r) := by
  refine ⟨by simp [h2.1], fun n t' hn => ?_⟩
  cases n with
  | zero => simp at hn; subst hn; exact h1
  | succ n => simpa using h2.2 n t' (by simpa using hn)

/-- An integer of 64 bits. -/
def I64 (z : Int) : Prop := -9223372036854775808 ≤ z ∧ z ≤ 9223372036854775807

theorem wrap64 (z : Int) : IntKind.i64.wrap z = (z + 9223372036854775808) % 18446744073709551616 - 9223372036854775808 := by
  have h1 : (2 : Int) ^ IntKind.i64.bits = 18446744073709551616 := rfl
  have h2 : (2 : Int) ^ (IntKind.i64.bits - 1) = 9223372036854775808 := rfl
  have h3 : IntKind.i64.signed = true := rfl
  unfold IntKind.wrap
  simp only [h1, h2, h3, Bool.true_and, decide_eq_true_eq]
  split <;> omega
theorem I64_iff (z : Int) : IntKind.i64.wrap z = z ↔ I64 z := by
  rw [wrap64]; unfold I64; omega

def euc (a b : Int) : Int := if b = 0 then a else euc b (a.tmod b)
  termination_by b.natAbs
  decreasing_by
  rename_i h
  rw [Int.natAbs_tmod]
  exact Nat.mod_lt _ (by omega)

theorem euc_zero (a : Int) : euc a 0 = a := by rw [euc]; simp
theorem euc_step {a b : Int} (h : b ≠ 0) : euc a b = euc b (a.tmod b) := by rw [euc]; simp [h]

theorem euc_gcd (a b : Int) : (euc a b).natAbs = Nat.gcd a.natAbs b.natAbs := by
  induction a, b using euc.induct with
  | case1 a => simp [euc_zero]
  | case2 a b h ih =>
    rw [euc_step h, ih, Int.natAbs_tmod, Nat.gcd_comm a.natAbs, Nat.gcd_rec b.natAbs a.natAbs, Nat.gcd_comm]
theorem euc_nonneg {a b : Int} (ha : 0 ≤ a) (hb : 0 ≤ b) : 0 ≤ euc a b := by
  induction a, b using euc.induct with
  | case1 a => rw [euc_zero]; exact ha
  | case2 a b h ih => rw [euc_step h]; exact ih hb (Int.tmod_nonneg b ha)
theorem euc_eq {a b : Int} (ha : 0 ≤ a) (hb : 0 ≤ b) : euc a b = (Nat.gcd a.natAbs b.natAbs : Nat) := by
  have := euc_nonneg ha hb
  have h := euc_gcd a b
  omega
theorem euc_I64 {a b : Int} (ha : I64 a) (hb : I64 b) : I64 (euc a b) := by
  induction a, b using euc.induct with
  | case1 a => rw [euc_zero]; exact ha
  | case2 a b h ih =>
    rw [euc_step h]
    refine ih hb ?_
    have h1 := Int.natAbs_tmod a b
    have h2 : a.natAbs % b.natAbs < b.natAbs := Nat.mod_lt _ (by omega)
    unfold I64 at *
    omega

theorem ints0 {vs : List Value} (h : TypedL [] vs) : vs = [] := TypedL_nil h
theorem int_cons {ts : List Ty} {vs : List Value} (h : TypedL (.int .i64 :: ts) vs) : ∃ a r, vs = .int .i64 a :: r ∧ I64 a ∧ TypedL ts r := by
  obtain ⟨v, r, h1, ⟨a, h2, h3⟩, h4⟩ := TypedL_cons h
  exact ⟨a, r, by rw [h1, h2], (I64_iff a).1 h3, h4⟩
theorem bool_cons {ts : List Ty} {vs : List Value} (h : TypedL (.bool :: ts) vs) : ∃ a r, vs = .bool a :: r ∧ TypedL ts r := by
  obtain ⟨v, r, h1, ⟨a, h2⟩, h4⟩ := TypedL_cons h
  exact ⟨a, r, by rw [h1, h2], h4⟩
theorem ints1 {vs : List Value} (h : TypedL [.int .i64] vs) : ∃ a, vs = [.int .i64 a] ∧ I64 a := by
  obtain ⟨a, r, h1, h2, h3⟩ := int_cons h
  exact ⟨a, by rw [h1, ints0 h3], h2⟩
theorem ints2 {vs : List Value} (h : TypedL [.int .i64, .int .i64] vs) : ∃ a b, vs = [.int .i64 a, .int .i64 b] ∧ I64 a ∧ I64 b := by
  obtain ⟨a, r, h1, h2, h3⟩ := int_cons h
  obtain ⟨b, h4, h5⟩ := ints1 h3
  exact ⟨a, b, by rw [h1, h4], h2, h5⟩
theorem ints3 {vs : List Value} (h : TypedL [.int .i64, .int .i64, .int .i64] vs) : ∃ a b c, vs = [.int .i64 a, .int .i64 b, .int .i64 c] ∧ I64 a ∧ I64 b ∧ I64 c := by
  obtain ⟨a, r, h1, h2, h3⟩ := int_cons h
  obtain ⟨b, c, h4, h5⟩ := ints2 h3
  exact ⟨a, b, c, by rw [h1, h4], h2, h5⟩
theorem ints4 {vs : List Value} (h : TypedL [.int .i64, .int .i64, .int .i64, .int .i64] vs) : ∃ a b c d, vs = [.int .i64 a, .int .i64 b, .int .i64 c, .int .i64 d] ∧ I64 a ∧ I64 b ∧ I64 c ∧ I64 d := by
  obtain ⟨a, r, h1, h2, h3⟩ := int_cons h
  obtain ⟨b, c, d, h4, h5⟩ := ints3 h3
  exact ⟨a, b, c, d, by rw [h1, h4], h2, h5⟩

/-! fractions -/
def inR (n : Int) : Bool := decide (-2000000000 ≤ n) && decide (n ≤ 2000000000)
def inRg (n lo hi : Int) : Bool := decide (lo ≤ n) && decide (n ≤ hi)
def gcd3 (a b c : Int) : Nat := Nat.gcd (Nat.gcd a.natAbs b.natAbs) c.natAbs
def validI (re im den : Int) : Bool := inR re && (inR im && (inRg den 1 2000000000 && (gcd3 re im den == 1)))
/-- Lowest terms, or four times nothing. -/
def lowI (re im den : Int) : Option (Int × Int × Int) :=
  let g : Int := gcd3 re im den
  if inR (re.tdiv g) && (inR (im.tdiv g) && decide (den.tdiv g ≤ 2000000000)) then some (re.tdiv g, im.tdiv g, den.tdiv g) else none
def zq : Int × Int × Int := (0, 0, 0)
def fr4 (o : Option (Int × Int × Int)) : List Value := [.int .i64 (o.getD zq).1, .int .i64 (o.getD zq).2.1, .int .i64 (o.getD zq).2.2, .bool o.isSome]
def fr3 (o : Option (Int × Int × Int)) : List Value := [.int .i64 (o.getD zq).1, .int .i64 (o.getD zq).2.1, .int .i64 (o.getD zq).2.2]

def i0 (ins : List Value) (k : Nat) : Int := toI (ins.getD k undef)
def b0 (ins : List Value) (k : Nat) : Bool := toB (ins.getD k undef)
def q3 (ins : List Value) (k : Nat) : Int × Int × Int := (i0 ins k, i0 ins (k + 1), i0 ins (k + 2))
abbrev Q := Int × Int × Int
def validQ (a : Q) : Bool := validI a.1 a.2.1 a.2.2
def realQ (a : Q) : Bool := validQ a && (a.2.1 == 0)
def addQ (a b : Q) : Option Q := if validQ a && validQ b then lowI (a.1 * b.2.2 + b.1 * a.2.2) (a.2.1 * b.2.2 + b.2.1 * a.2.2) (a.2.2 * b.2.2) else none
def lessQ (a b : Q) : Option Q := if validQ a && validQ b then lowI (a.1 * b.2.2 - b.1 * a.2.2) (a.2.1 * b.2.2 - b.2.1 * a.2.2) (a.2.2 * b.2.2) else none
def timesQ (a b : Q) : Option Q := if validQ a && validQ b then lowI (a.1 * b.1 - a.2.1 * b.2.1) (a.1 * b.2.1 + a.2.1 * b.1) (a.2.2 * b.2.2) else none
end Go.Sx

/- From a contract to what a row asks. -/
namespace Go.Sx
open Go

theorem law_calls {P : Program} {f : Nat} {sig : Sig} {F : Fun1} (hc : ConOK P [] f sig F.spec) (h1 : sig.pre = []) (h2 : sig.gin = []) (h3 : sig.res = .c (.s (.e (.var 0)))) {ins : List Value} (hty : TypedL sig.tin ins) (hp : F.pre ins) (ho : F.out ins = [.bool true]) (W : World) :
    Calls P f (sig.args.map (CV.val (at0 []) ins)).toArray W fun e w' => e = .returned (.bool true) ∧ RowKit.Below W.heap.size W w' := by
  have g : Given [] sig [] ins W :=
    { glob := fun g l h => by cases h
      globbs := fun g l h => by cases h
      len := by rw [h1]; rfl
      nodup := List.nodup_nil
      typed := hty
      blk := fun k b h => by rw [h1] at h; simp at h
      rows := fun x c n h => by rw [h2] at h; cases h }
  refine (hc W [] ins (fun outs => outs = [.bool true]) g ⟨hp, ho⟩).mono ?_
  rintro e w' ⟨outs, bs', v, rfl, L⟩
  have hr := L.res
  rw [h3, L.post] at hr
  refine ⟨by rw [show v = .bool true from hr], ⟨L.os, L.tape, L.output, L.size, fun k hk => L.frame k hk (by simp)⟩⟩

def intTys (P : Program) : List TypeId → Bool
  | [] => true
  | u :: r => (match P.underlying u with
    | some (.int .i64) => true
    | _ => false) && intTys P r
theorem intTys_mem {P : Program} : ∀ {l : List TypeId}, intTys P l = true → ∀ u ∈ l, P.underlying u = some (.int .i64)
  | [], _, u, h => by cases h
  | x :: r, h, u, hu => by
    simp only [intTys, Bool.and_eq_true] at h
    rcases List.mem_cons.1 hu with rfl | hu
    · have h1 := h.1
      split at h1
      · assumption
      · cases h1
    · exact intTys_mem h.2 u hu
def isAgg (P : Program) (t : TypeId) : Bool :=
  match P.underlying t with
  | some (.struct _) | some (.array _ _) => true
  | _ => false
def intVals : List Int → List Value
  | [] => []
  | z :: r => .int .i64 z :: intVals r

theorem cell_int {P : Program} {w : World} {r : Reach} {b : Nat} {u : TypeId} {v : Value} (hu : P.underlying u = some (.int .i64)) (h : Cell.okWide P w r b u v) : ∃ z, v = .int .i64 z ∧ I64 z := by
  have h : Cell.ok P w r b u v := by
    unfold Cell.okWide at h
    rw [hu] at h
    cases v <;> exact h
  unfold Cell.ok at h
  rw [hu] at h
  cases v with
  | int k n =>
    obtain ⟨rfl, h2⟩ := h
    refine ⟨n, rfl, ?_⟩
    simp only [IntKind.has] at h2
    have e1 : IntKind.min .i64 = -9223372036854775808 := rfl
    have e2 : IntKind.max .i64 = 9223372036854775807 := rfl
    unfold I64
    rw [e1, e2] at h2
    exact h2
  | _ => exact h.elim

theorem ints_list : ∀ (l : List Value), (∀ v ∈ l, ∃ z, v = .int .i64 z ∧ I64 z) → ∃ zs : List Int, l = intVals zs ∧ zs.length = l.length ∧ ∀ z ∈ zs, I64 z
  | [], _ => ⟨[], rfl, rfl, fun z h => by cases h⟩
  | v :: r, h => by
    obtain ⟨z, rfl, hz⟩ := h v List.mem_cons_self
    obtain ⟨zs, h1, h2, h3⟩ := ints_list r fun u hu => h u (List.mem_cons_of_mem _ hu)
    refine ⟨z :: zs, by rw [intVals, h1], by simp [h2], fun x hx => ?_⟩
    rcases List.mem_cons.1 hx with rfl | hx
    · exact hz
    · exact h3 x hx

/-- A struct or array whose cells are all integers. -/
theorem agg_ints {P : Program} {w : World} {r : Reach} {b : Nat} {t : TypeId} {v : Value} {ts : List TypeId} (hv : Value.okWide P w r b t v) (hA : isAgg P t = true) (hc : P.cellTypes P.depth t = some ts) (hi : intTys P ts = true) :
    ∃ zs : List Int, v = .agg (intVals zs).toArray ∧ zs.length = P.cellsOf t ∧ ∀ z ∈ zs, I64 z := by
  have h : ∃ cs, v = .agg cs ∧ cs.size = P.cellsOf t ∧ Row.okWide P w r b t cs := by
    unfold Value.okWide at hv
    unfold isAgg at hA
    split at hv
    · exact hv
    · exact hv
    · rename_i h1 h2
      split at hA
      · rename_i fs hf; exact absurd hf (h1 fs)
      · rename_i n e hf; exact absurd hf (h2 n e)
      · cases hA
  obtain ⟨cs, rfl, hsz, ts', hts, _, hcell⟩ := h
  rw [hc] at hts
  cases hts
  obtain ⟨zs, h1, h2, h3⟩ := ints_list cs.toList fun u hu => by
    obtain ⟨i, hi'⟩ := List.getElem?_of_mem hu
    obtain ⟨x, hx, hok⟩ := hcell i u (by simpa using hi')
    exact cell_int (intTys_mem hi x (List.mem_of_getElem? hx)) hok
  refine ⟨zs, ?_, ?_, h3⟩
  · rw [← h1]
  · rw [h2, ← hsz]; simp

theorem typed_ints : ∀ {zs : List Int}, (∀ z ∈ zs, I64 z) → TypedL (zs.map fun _ => Ty.int .i64) (intVals zs)
  | [], _ => TypedL_nil'
  | z :: _, h => TypedL_cons' ⟨z, rfl, (I64_iff z).2 (h z List.mem_cons_self)⟩ (typed_ints fun x hx => h x (List.mem_cons_of_mem _ hx))
end Go.Sx

/- Fractions, directions: plain facts. -/
namespace Go.Sx
open Go

/-- The loop's value is the divisor where it is small. -/
theorem gcd_small {a b : Int} (h : Nat.gcd b.natAbs a.natAbs < 9223372036854775808) : mxI false (euc b a) (IntKind.i64.wrap (0 - euc b a)) = (Nat.gcd b.natAbs a.natAbs : Nat) := by
  have h1 := euc_gcd b a
  rw [wrap64]
  unfold mxI
  simp only
  split <;> omega
theorem gcd3_alt (a b c : Int) : Nat.gcd (Nat.gcd c.natAbs a.natAbs) b.natAbs = gcd3 a b c := by
  unfold gcd3
  rw [Nat.gcd_comm c.natAbs, Nat.gcd_assoc, Nat.gcd_comm c.natAbs, ← Nat.gcd_assoc]
/-- What may be put into lowest terms. -/
def lowOk (re im den : Int) : Prop := -9223372036854775808 < re ∧ re ≤ 9223372036854775807 ∧ -9223372036854775808 < im ∧ im ≤ 9223372036854775807 ∧ 1 ≤ den ∧ den ≤ 9223372036854775807
theorem size_abs {a : Int} (h : -9223372036854775808 < a ∧ a ≤ 9223372036854775807) : mxI false a (IntKind.i64.wrap (0 - a)) = a.natAbs := by
  rw [wrap64]
  unfold mxI
  simp only
  split <;> omega
theorem quo_ok {a : Int} {g : Nat} (h : -9223372036854775808 < a ∧ a ≤ 9223372036854775807) : IntKind.i64.wrap (a.tdiv g) = a.tdiv g := by
  rw [I64_iff]
  have h1 := Int.natAbs_tdiv a g
  have h2 : (a.tdiv g).natAbs ≤ a.natAbs := by rw [h1]; exact Nat.div_le_self _ _
  clear h1
  unfold I64
  generalize a.tdiv g = d at *
  omega
theorem gcd3_pos {a b c : Int} (h : 1 ≤ c) : 0 < gcd3 a b c := Nat.gcd_pos_of_pos_right _ (by omega)
theorem euc_nat (a b : Nat) : euc a b = (Nat.gcd a b : Nat) := euc_eq (by omega) (by omega)
theorem gcd3_low {a b c : Int} (h : 1 ≤ c) : gcd3 (a.tdiv (gcd3 a b c)) (b.tdiv (gcd3 a b c)) (c.tdiv (gcd3 a b c)) = 1 := by
  have hg : 0 < gcd3 a b c := gcd3_pos h
  have d3 : gcd3 a b c ∣ c.natAbs := Nat.gcd_dvd_right _ _
  have d12 : gcd3 a b c ∣ Nat.gcd a.natAbs b.natAbs := Nat.gcd_dvd_left _ _
  have d1 := Nat.dvd_trans d12 (Nat.gcd_dvd_left _ _)
  have d2 := Nat.dvd_trans d12 (Nat.gcd_dvd_right _ _)
  show Nat.gcd (Nat.gcd (a.tdiv (gcd3 a b c)).natAbs (b.tdiv (gcd3 a b c)).natAbs) (c.tdiv (gcd3 a b c)).natAbs = 1
  have hd : ∀ x y : Nat, Nat.div x y = x / y := fun _ _ => rfl
  simp only [Int.natAbs_tdiv, Int.natAbs_natCast, hd]
  rw [Nat.gcd_div d1 d2, Nat.gcd_div d12 d3]
  exact Nat.div_self hg
theorem valid_low {a b c : Int} (h : 1 ≤ c) : validI (a.tdiv (gcd3 a b c)) (b.tdiv (gcd3 a b c)) (c.tdiv (gcd3 a b c)) = (inR (a.tdiv (gcd3 a b c)) && (inR (b.tdiv (gcd3 a b c)) && decide (c.tdiv (gcd3 a b c) ≤ 2000000000))) := by
  have hg : 0 < gcd3 a b c := gcd3_pos h
  have d3 : gcd3 a b c ∣ c.natAbs := Nat.gcd_dvd_right _ _
  have h1 : 1 ≤ c.tdiv (gcd3 a b c) := by
    obtain ⟨n, rfl⟩ : ∃ n : Nat, c = n := ⟨c.natAbs, by omega⟩
    rw [← Int.ofNat_tdiv]
    have : 0 < n / gcd3 a b n := Nat.div_pos (Nat.le_of_dvd (by omega) (by simpa using d3)) hg
    omega
  unfold validI inRg
  rw [gcd3_low h]
  simp [h1]
def most : Int := 1000000000000000000
def makeI (re im den : Int) : Option (Int × Int × Int) :=
  if inRg den 1 most && (inRg re (-most) most && inRg im (-most) most) then lowI re im den else none
theorem fr4_split (o : Option (Int × Int × Int)) : ∃ a b c t, fr4 o = [.int .i64 a, .int .i64 b, .int .i64 c, .bool t] := by
  exact ⟨_, _, _, _, rfl⟩
/-- A direction that is told. -/
def dirOk (p q : Int) : Bool := inRg p (-100) 100 && (inRg q (-100) 100 && !(p == 0 && q == 0))
def dirC (p q : Int) : Option Q := if dirOk p q then lowI (p * p - q * q) 0 (p * p + q * q) else none
def dirS (p q : Int) : Option Q := if dirOk p q then lowI (2 * p * q) 0 (p * p + q * q) else none
def dirV (p q : Int) : List Value := fr3 (dirC p q) ++ (fr3 (dirS p q) ++ [.bool (dirOk p q)])
theorem fr4_fr3 (o : Option (Int × Int × Int)) : ∃ a b c t, fr4 o = [.int .i64 a, .int .i64 b, .int .i64 c, .bool t] ∧ fr3 o = [.int .i64 a, .int .i64 b, .int .i64 c] := by
  exact ⟨_, _, _, _, rfl, rfl⟩
theorem wrap_in {z : Int} (h : -9223372036854775808 ≤ z ∧ z ≤ 9223372036854775807) : IntKind.i64.wrap z = z := (I64_iff z).2 h
theorem sq_nonneg (p : Int) : 0 ≤ p * p := by
  rw [← Int.natAbs_mul_self']
  exact Int.mul_nonneg (Int.natCast_nonneg _) (Int.natCast_nonneg _)
theorem sq_bound {p : Int} (h : -100 ≤ p ∧ p ≤ 100) : 0 ≤ p * p ∧ p * p ≤ 10000 := by
  obtain ⟨h1, h2⟩ := h
  constructor
  · exact sq_nonneg p
  · rcases Int.le_total 0 p with h | h
    · exact Int.mul_le_mul h2 h2 h (by omega)
    · have := Int.mul_le_mul (a := -p) (b := -p) (c := 100) (d := 100) (by omega) (by omega) (by omega) (by omega)
      rw [Int.neg_mul_neg] at this
      exact this
theorem mul_bound {p q : Int} (h : -100 ≤ p ∧ p ≤ 100) (k : -100 ≤ q ∧ q ≤ 100) : -10000 ≤ p * q ∧ p * q ≤ 10000 := by
  have h1 := sq_bound h
  have h2 := sq_bound k
  have h3 : 0 ≤ (p - q) * (p - q) := sq_nonneg _
  have h4 : 0 ≤ (p + q) * (p + q) := sq_nonneg _
  have e3 : (p - q) * (p - q) = p * p - 2 * (p * q) + q * q := by rw [Int.sub_mul, Int.mul_sub, Int.mul_sub, Int.mul_comm q p]; omega
  have e4 : (p + q) * (p + q) = p * p + 2 * (p * q) + q * q := by rw [Int.add_mul, Int.mul_add, Int.mul_add, Int.mul_comm q p]; omega
  generalize p * q = r at *
  generalize p * p = s at *
  generalize q * q = t at *
  omega
theorem sq_pos {p : Int} (h : p ≠ 0) : 1 ≤ p * p := by
  rw [← Int.natAbs_mul_self']
  exact Int.mul_pos (a := (p.natAbs : Int)) (b := (p.natAbs : Int)) (by omega) (by omega)
theorem dir_facts {p q : Int} (h : dirOk p q = true) : lowOk (p * p - q * q) 0 (p * p + q * q) ∧ lowOk (2 * p * q) 0 (p * p + q * q) ∧ IntKind.i64.wrap (p * p) = p * p ∧ IntKind.i64.wrap (q * q) = q * q ∧
    IntKind.i64.wrap (p * p - q * q) = p * p - q * q ∧ IntKind.i64.wrap (p * p + q * q) = p * p + q * q ∧ IntKind.i64.wrap (2 * p) = 2 * p ∧ IntKind.i64.wrap (2 * p * q) = 2 * p * q ∧ 1 ≤ p * p + q * q ∧ p * p + q * q ≤ 20000 ∧
    -10000 ≤ p * p - q * q ∧ p * p - q * q ≤ 10000 ∧ -20000 ≤ 2 * p * q ∧ 2 * p * q ≤ 20000 := by
  simp only [dirOk, inRg, Bool.and_eq_true, decide_eq_true_eq, Bool.not_eq_true', Bool.and_eq_false_iff, beq_eq_false_iff_ne] at h
  obtain ⟨hp, hq, hne⟩ := h
  have b1 := sq_bound hp
  have b2 := sq_bound hq
  have b3 := mul_bound hp hq
  have b4 : 1 ≤ p * p + q * q := by
    rcases hne with h | h
    · have := sq_pos h; omega
    · have := sq_pos h; omega
  have e : 2 * p * q = 2 * (p * q) := Int.mul_assoc _ _ _
  rw [e]
  unfold lowOk
  generalize p * q = r at *
  generalize p * p = s at *
  generalize q * q = t at *
  refine ⟨by omega, by omega, wrap_in (by omega), wrap_in (by omega), wrap_in (by omega), wrap_in (by omega), wrap_in (by omega), wrap_in (by omega), by omega, by omega, by omega, by omega, by omega, by omega⟩
theorem make_small {a c x : Int} (h1 : -x ≤ a) (h2 : a ≤ x) (h3 : 1 ≤ c) (h4 : c ≤ 20000) (hx : x ≤ 20000 := by omega) : makeI a 0 c = lowI a 0 c := by
  unfold makeI inRg most
  rw [if_pos]
  simp only [Bool.and_eq_true, decide_eq_true_eq]
  omega
def secOk (p q k n : Int) : Bool := dirOk p q && (inRg k 0 3 && inRg n 0 50)
theorem dirV_split (p q : Int) : ∃ a1 a2 a3 b1 b2 b3, dirV p q = [.int .i64 a1, .int .i64 a2, .int .i64 a3, .int .i64 b1, .int .i64 b2, .int .i64 b3, .bool (dirOk p q)] :=
  ⟨_, _, _, _, _, _, rfl⟩
def beatI (k : Int) : Int := if k = 0 then 1 else if k = 2 then 2 else 4
def beatV (p q k n : Int) : List Value := if secOk p q k n then [.int .i64 (beatI k), .bool true] else [.int .i64 0, .bool false]

theorem mulB {a b : Int} (ha : -2000000000 ≤ a ∧ a ≤ 2000000000) (hb : -2000000000 ≤ b ∧ b ≤ 2000000000) : -4000000000000000000 ≤ a * b ∧ a * b ≤ 4000000000000000000 := by
  have h1 : (a * b).natAbs ≤ 2000000000 * 2000000000 := by
    rw [Int.natAbs_mul]
    exact Nat.mul_le_mul (by omega) (by omega)
  generalize a * b = c at *
  omega
theorem denB {a b : Int} (ha : 1 ≤ a ∧ a ≤ 2000000000) (hb : 1 ≤ b ∧ b ≤ 2000000000) : 1 ≤ a * b ∧ a * b ≤ 4000000000000000000 := by
  refine ⟨?_, (mulB (by omega) (by omega)).2⟩
  exact Int.mul_pos (by omega) (by omega)
theorem valid_bounds {a b c : Int} (h : validI a b c = true) : (-2000000000 ≤ a ∧ a ≤ 2000000000) ∧ (-2000000000 ≤ b ∧ b ≤ 2000000000) ∧ (1 ≤ c ∧ c ≤ 2000000000) := by
  simp only [validI, inR, inRg, Bool.and_eq_true, decide_eq_true_eq] at h
  exact ⟨h.1, h.2.1, h.2.2.1⟩

/-- The facts on a sum of two fractions that are valid. -/
theorem sum_facts {a b c x y z : Int} (h : validI a b c = true) (k : validI x y z = true) :
    IntKind.i64.wrap (a * z) = a * z ∧ IntKind.i64.wrap (x * c) = x * c ∧ IntKind.i64.wrap (b * z) = b * z ∧ IntKind.i64.wrap (y * c) = y * c ∧ IntKind.i64.wrap (c * z) = c * z ∧
    IntKind.i64.wrap (a * z + x * c) = a * z + x * c ∧ IntKind.i64.wrap (b * z + y * c) = b * z + y * c ∧ IntKind.i64.wrap (a * z - x * c) = a * z - x * c ∧ IntKind.i64.wrap (b * z - y * c) = b * z - y * c ∧
    lowOk (a * z + x * c) (b * z + y * c) (c * z) ∧ lowOk (a * z - x * c) (b * z - y * c) (c * z) := by
  obtain ⟨h1, h2, h3⟩ := valid_bounds h
  obtain ⟨k1, k2, k3⟩ := valid_bounds k
  have m1 := mulB h1 (b := z) (by omega)
  have m2 := mulB k1 (b := c) (by omega)
  have m3 := mulB h2 (b := z) (by omega)
  have m4 := mulB k2 (b := c) (by omega)
  have m5 := denB h3 k3
  unfold lowOk
  generalize a * z = p1 at *
  generalize x * c = p2 at *
  generalize b * z = p3 at *
  generalize y * c = p4 at *
  generalize c * z = p5 at *
  refine ⟨wrap_in (by omega), wrap_in (by omega), wrap_in (by omega), wrap_in (by omega), wrap_in (by omega), wrap_in (by omega), wrap_in (by omega), wrap_in (by omega), wrap_in (by omega), by omega, by omega⟩

/-- The facts on a product. -/
theorem mul_facts {a b c x y z : Int} (h : validI a b c = true) (k : validI x y z = true) :
    IntKind.i64.wrap (a * x) = a * x ∧ IntKind.i64.wrap (b * y) = b * y ∧ IntKind.i64.wrap (a * y) = a * y ∧ IntKind.i64.wrap (b * x) = b * x ∧ IntKind.i64.wrap (c * z) = c * z ∧
    IntKind.i64.wrap (a * x - b * y) = a * x - b * y ∧ IntKind.i64.wrap (a * y + b * x) = a * y + b * x ∧ lowOk (a * x - b * y) (a * y + b * x) (c * z) := by
  obtain ⟨h1, h2, h3⟩ := valid_bounds h
  obtain ⟨k1, k2, k3⟩ := valid_bounds k
  have m1 := mulB h1 k1
  have m2 := mulB h2 k2
  have m3 := mulB h1 k2
  have m4 := mulB h2 k1
  have m5 := denB h3 k3
  unfold lowOk
  generalize a * x = p1 at *
  generalize b * y = p2 at *
  generalize a * y = p3 at *
  generalize b * x = p4 at *
  generalize c * z = p5 at *
  refine ⟨wrap_in (by omega), wrap_in (by omega), wrap_in (by omega), wrap_in (by omega), wrap_in (by omega), wrap_in (by omega), wrap_in (by omega), by omega⟩

theorem ints6 {vs : List Value} (h : TypedL [.int .i64, .int .i64, .int .i64, .int .i64, .int .i64, .int .i64] vs) : ∃ a b c x y z, vs = [.int .i64 a, .int .i64 b, .int .i64 c, .int .i64 x, .int .i64 y, .int .i64 z] ∧ I64 a ∧ I64 b ∧ I64 c ∧ I64 x ∧ I64 y ∧ I64 z := by
  obtain ⟨a, r, h1, w1, h⟩ := int_cons h
  obtain ⟨b, r2, h2, w2, h⟩ := int_cons h
  obtain ⟨c, x, y, z, h3, w3, w4, w5, w6⟩ := ints4 h
  exact ⟨a, b, c, x, y, z, by rw [h1, h2, h3], w1, w2, w3, w4, w5, w6⟩

/-- A long list of integers as a function. -/
def ivs (g : Nat → Int) : Nat → Nat → List Value
  | _, 0 => []
  | k, n + 1 => .int .i64 (g k) :: ivs g (k + 1) n
theorem ivs_getElem? (g : Nat → Int) : ∀ (n k i : Nat), i < n → (ivs g k n)[i]? = some (.int .i64 (g (k + i)))
  | 0, _, _, h => by omega
  | n + 1, k, 0, _ => rfl
  | n + 1, k, i + 1, h => by
    simp only [ivs, List.getElem?_cons_succ, ivs_getElem? g n (k + 1) i (by omega)]
    congr 3
    omega
theorem ivs_length (g : Nat → Int) : ∀ (n k : Nat), (ivs g k n).length = n
  | 0, _ => rfl
  | n + 1, k => by simp [ivs, ivs_length g n (k + 1)]
def intTs : Nat → List Ty
  | 0 => []
  | n + 1 => .int .i64 :: intTs n
theorem ints_lit : ∀ (n k : Nat) {ins : List Value} {ts : List Ty}, TypedL (intTs n ++ ts) ins → ∃ (g : Nat → Int) (r : List Value), ins = ivs g k n ++ r ∧ TypedL ts r ∧ ∀ i, k ≤ i → i < k + n → I64 (g i)
  | 0, k, ins, ts, h => ⟨fun _ => 0, ins, rfl, h, fun i h1 h2 => by omega⟩
  | n + 1, k, ins, ts, h => by
    obtain ⟨a, r, rfl, wa, h1⟩ := int_cons h
    obtain ⟨g, r', rfl, h2, h3⟩ := ints_lit n (k + 1) h1
    refine ⟨fun i => if i = k then a else g i, r', ?_, h2, fun i q1 q2 => ?_⟩
    · have e : ∀ (m j : Nat), k < j → ivs (fun i => if i = k then a else g i) j m = ivs g j m := by
        intro m
        induction m with
        | zero => intro j _; rfl
        | succ m ih =>
          intro j hj
          simp only [ivs, if_neg (show ¬ j = k by omega), ih (j + 1) (by omega)]
      simp only [ivs, if_true, e n (k + 1) (by omega), List.cons_append]
    · by_cases hk : i = k
      · simp only [hk, if_true]; exact wa
      · simp only [if_neg hk]; exact h3 i (by omega) (by omega)
end Go.Sx

/- Sums of products of fractions. -/
namespace Go.Sx
open Go

theorem low_valid {a b c : Int} (h : lowOk a b c) {v : Q} (hv : lowI a b c = some v) : validQ v = true := by
  obtain ⟨_, _, _, _, h5, _⟩ := h
  unfold lowI at hv
  simp only at hv
  split at hv
  · rename_i hc
    cases hv
    show validI _ _ _ = true
    rw [valid_low h5]
    exact hc
  · cases hv
theorem times_valid {x y v : Q} (h : timesQ x y = some v) : validQ v = true := by
  unfold timesQ at h
  split at h
  · rename_i hc
    simp only [Bool.and_eq_true] at hc
    obtain ⟨_, _, _, _, _, _, _, l⟩ := mul_facts hc.1 hc.2
    exact low_valid l h
  · cases h
theorem add_valid {x y v : Q} (h : addQ x y = some v) : validQ v = true := by
  unfold addQ at h
  split at h
  · rename_i hc
    simp only [Bool.and_eq_true] at hc
    obtain ⟨_, _, _, _, _, _, _, _, _, l, _⟩ := sum_facts hc.1 hc.2
    exact low_valid l h
  · cases h
theorem less_valid {x y v : Q} (h : lessQ x y = some v) : validQ v = true := by
  unfold lessQ at h
  split at h
  · rename_i hc
    simp only [Bool.and_eq_true] at hc
    obtain ⟨_, _, _, _, _, _, _, _, _, _, l⟩ := sum_facts hc.1 hc.2
    exact low_valid l h
  · cases h

/-- What is in lowest terms stays. -/
theorem low_same {v : Q} (h : validQ v = true) : lowI v.1 v.2.1 v.2.2 = some v := by
  have hg : gcd3 v.1 v.2.1 v.2.2 = 1 := by
    simp only [validQ, validI, Bool.and_eq_true, beq_iff_eq] at h
    exact h.2.2.2
  obtain ⟨b1, b2, b3⟩ := valid_bounds h
  unfold lowI
  simp only [hg, Int.natCast_one, Int.tdiv_one]
  rw [if_pos]
  simp only [inR, Bool.and_eq_true, decide_eq_true_eq]
  omega
def nil1 : Q := (0, 0, 1)
theorem nil1_valid : validQ nil1 = true := by decide
theorem add_nil {v : Q} (h : validQ v = true) : addQ nil1 v = some v := by
  unfold addQ
  rw [nil1_valid, h]
  simp only [Bool.and_self, if_true, nil1, Int.zero_mul, Int.zero_add, Int.mul_one, Int.one_mul]
  exact low_same h

/-- A row times a column. -/
def dotQ (x y : Nat → Q) : Option Q :=
  (timesQ (x 0) (y 0)).bind fun t0 => (timesQ (x 1) (y 1)).bind fun t1 => (addQ t0 t1).bind fun a1 => (timesQ (x 2) (y 2)).bind fun t2 => (addQ a1 t2).bind fun a2 =>
    (timesQ (x 3) (y 3)).bind fun t3 => addQ a2 t3

/-! as the program goes: a sum that remembers -/
def tmS (s : Bool) (x y : Q) : Q × Bool := ((timesQ x y).getD zq, s || !(timesQ x y).isSome)
def adS (s : Bool) (x y : Q) : Q × Bool := ((addQ x y).getD zq, s || !(addQ x y).isSome)
def cellI (x y : Nat → Q) (s : Bool) : Q × Bool :=
  let p0 := tmS s (x 0) (y 0)
  let p1 := tmS p0.2 (x 1) (y 1)
  let a1 := adS p1.2 p0.1 p1.1
  let p2 := tmS a1.2 (x 2) (y 2)
  let a2 := adS p2.2 a1.1 p2.1
  let p3 := tmS a2.2 (x 3) (y 3)
  adS p3.2 a2.1 p3.1
theorem cellI_spec (x y : Nat → Q) (s : Bool) : (cellI x y s).2 = (s || !(dotQ x y).isSome) ∧ ∀ v, dotQ x y = some v → (cellI x y s).1 = v := by
  unfold cellI dotQ tmS adS
  cases h0 : timesQ (x 0) (y 0) with
  | none => simp
  | some t0 =>
    cases h1 : timesQ (x 1) (y 1) with
    | none => simp
    | some t1 =>
      cases h2 : addQ t0 t1 with
      | none => simp [h2]
      | some a1 =>
        cases h3 : timesQ (x 2) (y 2) with
        | none => simp [h2]
        | some t2 =>
          cases h4 : addQ a1 t2 with
          | none => simp [h2, h4]
          | some a2 =>
            cases h5 : timesQ (x 3) (y 3) with
            | none => simp [h2, h4]
            | some t3 =>
              cases h6 : addQ a2 t3 with
              | none => simp [h2, h4, h6]
              | some a3 => simp [h2, h4, h6]

/-! as the reference goes: from nought -/
def cellS (x y : Nat → Q) (s : Bool) : Q × Bool :=
  let t0 := timesQ (x 0) (y 0)
  let a0 := addQ nil1 (t0.getD zq)
  let t1 := timesQ (x 1) (y 1)
  let a1 := addQ (a0.getD zq) (t1.getD zq)
  let t2 := timesQ (x 2) (y 2)
  let a2 := addQ (a1.getD zq) (t2.getD zq)
  let t3 := timesQ (x 3) (y 3)
  let a3 := addQ (a2.getD zq) (t3.getD zq)
  (a3.getD zq, ((((((((s && t0.isSome) && a0.isSome) && t1.isSome) && a1.isSome) && t2.isSome) && a2.isSome) && t3.isSome) && a3.isSome))
theorem cellS_spec (x y : Nat → Q) (s : Bool) : (cellS x y s).2 = (s && (dotQ x y).isSome) ∧ ∀ v, dotQ x y = some v → (cellS x y s).1 = v := by
  unfold cellS dotQ
  cases h0 : timesQ (x 0) (y 0) with
  | none => simp
  | some t0 =>
    have hn := add_nil (times_valid h0)
    cases h1 : timesQ (x 1) (y 1) with
    | none => simp
    | some t1 =>
      cases h2 : addQ t0 t1 with
      | none => simp [h2, hn]
      | some a1 =>
        cases h3 : timesQ (x 2) (y 2) with
        | none => simp [h2, hn]
        | some t2 =>
          cases h4 : addQ a1 t2 with
          | none => simp [h2, h4, hn]
          | some a2 =>
            cases h5 : timesQ (x 3) (y 3) with
            | none => simp [h2, h4, hn]
            | some t3 =>
              cases h6 : addQ a2 t3 with
              | none => simp [h2, h4, h6, hn]
              | some a3 => simp [h2, h4, h6, hn]

/-! trees that ask nothing -/
def noEvn (n : Nat) : Evn → Bool
  | .need nd => nd.all fun x => match x with
    | .bool true => true
    | _ => false
  | .call k _ _ _ => Nat.ble (k + 1) n
  | .prim _ _ => false
  | .app _ _ _ => false
def noEvs (n : Nat) : List Evn → Bool
  | [] => true
  | e :: r => noEvn n e && noEvs n r
def noTr (n : Nat) : Tr → Bool
  | .evs l t => noEvs n l && noTr n t
  | .ite _ a b => noTr n a && noTr n b
  | .ret _ => true
  | _ => false
theorem preF_all : ∀ {Fs : List Fun1} (_ : ∀ F ∈ Fs, ∀ ins, F.pre ins) {k : Nat} (ins : List Value), k < Fs.length → preF Fs k ins ∧ hasF Fs k
  | [], _, k, _, h => by simp at h
  | F :: r, hF, 0, ins, _ => ⟨hF F List.mem_cons_self ins, trivial⟩
  | F :: r, hF, k + 1, ins, h => preF_all (Fs := r) (fun G hG => hF G (List.mem_cons_of_mem _ hG)) ins (by simpa using h)
theorem needs_free {env : List Value} : ∀ {nd : List Ex}, (nd.all fun x => match x with
    | .bool true => true
    | _ => false) = true → needs env nd
  | [], _ => trivial
  | x :: r, h => by
    simp only [List.all_cons, Bool.and_eq_true] at h
    refine ⟨?_, needs_free h.2⟩
    have h1 := h.1
    split at h1
    · rfl
    · cases h1
theorem okE_free {Fs : List Fun1} (hF : ∀ F ∈ Fs, ∀ ins, F.pre ins) : ∀ (l : List Evn) (env : List Value), noEvs Fs.length l = true → okE Fs l env
  | [], _, _ => trivial
  | .need nd :: r, env, h => by
    simp only [noEvs, noEvn, Bool.and_eq_true] at h
    exact ⟨needs_free h.1, okE_free hF r env h.2⟩
  | .call k ins none n :: r, env, h => by
    simp only [noEvs, noEvn, Bool.and_eq_true] at h
    exact ⟨(preF_all hF _ (Nat.le_of_ble_eq_true h.1)).1, okE_free hF r _ h.2⟩
  | .call k ins (some g) n :: r, env, h => by
    simp only [noEvs, noEvn, Bool.and_eq_true] at h
    have h1 := preF_all hF (evsIn env ins) (Nat.le_of_ble_eq_true h.1)
    exact ⟨h1.2, fun _ => h1.1, okE_free hF r _ h.2⟩
  | .prim _ _ :: r, env, h => by simp [noEvs, noEvn] at h
  | .app _ _ _ :: r, env, h => by simp [noEvs, noEvn] at h
theorem okT_free {Fs : List Fun1} (hF : ∀ F ∈ Fs, ∀ ins, F.pre ins) : ∀ (t : Tr) (env : List Value), noTr Fs.length t = true → okT Fs t env
  | .evs l t, env, h => by
    simp only [noTr, Bool.and_eq_true] at h
    exact ⟨okE_free hF l env h.1, okT_free hF t _ h.2⟩
  | .ite c a b, env, h => by
    simp only [noTr, Bool.and_eq_true] at h
    simp only [okT]
    split
    · exact okT_free hF a env h.1
    · exact okT_free hF b env h.2
  | .ret _, _, _ => trivial
  | .fail _, _, h => by cases h
  | .lp _ _ _ _, _, h => by cases h
  | .next _ _, _, h => by cases h

/-! tests in a row -/
def allB (p : Nat → Bool) : Nat → Nat → Bool
  | _, 0 => true
  | k, n + 1 => p k && allB p (k + 1) n
def nestC (c : Nat → Value) : Nat → Nat → List Value
  | _, 0 => [.bool true]
  | k, n + 1 => if toB (c k) = true then [.bool false] else nestC c (k + 1) n
theorem nestC_eq {c : Nat → Value} {p : Nat → Bool} (h : ∀ k, toB (c k) = !p k) : ∀ n k, nestC c k n = [.bool (allB p k n)]
  | 0, _ => rfl
  | n + 1, k => by
    simp only [nestC, allB, h, nestC_eq h n (k + 1)]
    cases p k <;> simp
theorem allB_get {p : Nat → Bool} : ∀ {n k : Nat}, allB p k n = true → ∀ i, k ≤ i → i < k + n → p i = true
  | 0, k, _, i, h1, h2 => by omega
  | n + 1, k, h, i, h1, h2 => by
    simp only [allB, Bool.and_eq_true] at h
    rcases Nat.eq_or_lt_of_le h1 with rfl | h1
    · exact h.1
    · exact allB_get h.2 i h1 (by omega)
theorem allB_congr {p q : Nat → Bool} (h : ∀ i, p i = q i) : ∀ n k, allB p k n = allB q k n
  | 0, _ => rfl
  | n + 1, k => by simp only [allB, h k, allB_congr h n (k + 1)]
theorem allB_true {p : Nat → Bool} (h : ∀ i, p i = true) : ∀ n k, allB p k n = true
  | 0, _ => rfl
  | n + 1, k => by simp [allB, h k, allB_true h n (k + 1)]
def andB (a b : Bool) : Bool := toB (if toB (.bool a) = true then .bool b else .bool false)
theorem andB_eq (a b : Bool) : andB a b = (a && b) := by cases a <;> rfl
def fl3 : List Q → List Value
  | [] => []
  | v :: r => .int .i64 v.1 :: .int .i64 v.2.1 :: .int .i64 v.2.2 :: fl3 r

def cellS' (x y : Nat → Q) (s : Bool) : Q × Bool :=
  let t0 := timesQ (x 0) (y 0)
  let a0 := addQ nil1 (t0.getD zq)
  let t1 := timesQ (x 1) (y 1)
  let a1 := addQ (a0.getD zq) (t1.getD zq)
  let t2 := timesQ (x 2) (y 2)
  let a2 := addQ (a1.getD zq) (t2.getD zq)
  let t3 := timesQ (x 3) (y 3)
  let a3 := addQ (a2.getD zq) (t3.getD zq)
  (a3.getD zq, andB (andB (andB (andB s t0.isSome && a0.isSome) t1.isSome && a1.isSome) t2.isSome && a2.isSome) t3.isSome && a3.isSome)
theorem cellS'_eq (x y : Nat → Q) (s : Bool) : cellS' x y s = cellS x y s := by
  unfold cellS' cellS
  simp only [andB_eq]
end Go.Sx

/- Products of tables. -/
namespace Go.Sx
open Go

def rowF (f : Nat → Q) (r : Nat) : Nat → Q := fun j => f (4 * r + j)
def colF (f : Nat → Q) (c : Nat) : Nat → Q := fun j => f (4 * j + c)
def dotK (a b : Nat → Q) (k : Nat) : Option Q := dotQ (rowF a (k / 4)) (colF b (k % 4))
def listD (d : Nat → Option Q) : Nat → Nat → List Q
  | _, 0 => []
  | k, n + 1 => (d k).getD zq :: listD d (k + 1) n
def zeros : Nat → List Value
  | 0 => []
  | n + 1 => .int .i64 0 :: zeros n
/-- What a product of tables is. -/
def ttV (ok : Bool) (d : Nat → Option Q) : List Value :=
  if ok && allB (fun i => (d i).isSome) 0 16 then fl3 (listD d 0 16) ++ [.bool true] else zeros 48 ++ [.bool false]

/-! the program's way -/
def cellsI (c : Nat → Bool → Q × Bool) : Nat → Nat → Bool → List Q × Bool
  | _, 0, s => ([], s)
  | k, n + 1, s => ((c k s).1 :: (cellsI c (k + 1) n (c k s).2).1, (cellsI c (k + 1) n (c k s).2).2)
def gotL (bad : Bool) : List Q → List Value
  | [] => []
  | v :: r => .int .i64 (if bad then 0 else v.1) :: .int .i64 (if bad then 0 else v.2.1) :: .int .i64 (if bad then 0 else v.2.2) :: gotL bad r
theorem cellsI_spec {c : Nat → Bool → Q × Bool} {d : Nat → Option Q} (h : ∀ k s, (c k s).2 = (s || !(d k).isSome) ∧ ∀ v, d k = some v → (c k s).1 = v) : ∀ n k s,
    (cellsI c k n s).1.length = n ∧ (cellsI c k n s).2 = (s || !allB (fun i => (d i).isSome) k n) ∧ (allB (fun i => (d i).isSome) k n = true → (cellsI c k n s).1 = listD d k n)
  | 0, k, s => ⟨rfl, by simp [cellsI, allB], fun _ => rfl⟩
  | n + 1, k, s => by
    obtain ⟨i1, i2, i3⟩ := cellsI_spec h n (k + 1) (c k s).2
    obtain ⟨h1, h2⟩ := h k s
    refine ⟨by simp [cellsI, i1], ?_, fun ha => ?_⟩
    · show (cellsI c (k + 1) n (c k s).2).2 = _
      rw [i2]
      simp only [allB, h1]
      cases s <;> cases (d k).isSome <;> simp
    · simp only [allB, Bool.and_eq_true] at ha
      obtain ⟨v, hv⟩ := Option.isSome_iff_exists.1 ha.1
      simp only [cellsI, listD, i3 ha.2, h2 v hv, hv, Option.getD_some]
theorem gotL_bad : ∀ l : List Q, gotL true l = zeros (3 * l.length)
  | [] => rfl
  | v :: r => by
    rw [List.length_cons, Nat.mul_succ, gotL, gotL_bad r]
    rfl
theorem gotL_good : ∀ l : List Q, gotL false l = fl3 l
  | [] => rfl
  | v :: r => by simp only [gotL, fl3, gotL_good r]; rfl
theorem ttI_eq {c : Nat → Bool → Q × Bool} {d : Nat → Option Q} (h : ∀ k s, (c k s).2 = (s || !(d k).isSome) ∧ ∀ v, d k = some v → (c k s).1 = v) (ok : Bool) :
    gotL (cellsI c 0 16 (!ok)).2 (cellsI c 0 16 (!ok)).1 ++ [.bool (!(cellsI c 0 16 (!ok)).2)] = ttV ok d := by
  obtain ⟨h1, h2, h3⟩ := cellsI_spec h 16 0 (!ok)
  unfold ttV
  cases hc : (ok && allB (fun i => (d i).isSome) 0 16) with
  | true =>
    simp only [Bool.and_eq_true] at hc
    rw [h2, h3 hc.2, hc.1, hc.2]
    simp only [Bool.not_true, Bool.or_self, if_true, gotL_good, Bool.not_false]
  | false =>
    have : (cellsI c 0 16 (!ok)).2 = true := by
      rw [h2]
      revert hc
      generalize allB (fun i => (d i).isSome) 0 16 = x
      cases ok <;> cases x <;> simp
    rw [this, gotL_bad, h1]
    simp

/-! the reference's way -/
def padQ : Nat → List Q
  | 0 => []
  | n + 1 => zq :: padQ n
def finS (s : Bool) (l : List Q) : List Value := if toB (.bool (!s)) = true then zeros 48 ++ [.bool false] else fl3 l ++ [.bool true]
def nestS (c : Nat → Bool → Q × Bool) : Nat → Nat → List Q → Bool → List Value
  | 0, _, acc, s => finS s acc
  | n + 1, k, acc, s => if toB (.bool s) = true then nestS c n (k + 1) (acc ++ [(c k s).1]) (c k s).2 else finS s (acc ++ padQ (n + 1))
theorem nestS_spec {c : Nat → Bool → Q × Bool} {d : Nat → Option Q} (h : ∀ k s, (c k s).2 = (s && (d k).isSome) ∧ ∀ v, d k = some v → (c k s).1 = v) : ∀ n k acc s,
    nestS c n k acc s = if s && allB (fun i => (d i).isSome) k n then fl3 (acc ++ listD d k n) ++ [.bool true] else zeros 48 ++ [.bool false]
  | 0, k, acc, s => by
    simp only [nestS, finS, allB, Bool.and_true, listD, List.append_nil]
    cases s <;> simp
  | n + 1, k, acc, s => by
    obtain ⟨h1, h2⟩ := h k s
    simp only [nestS, nestS_spec h n (k + 1), allB, h1]
    cases s with
    | false => simp [finS]
    | true =>
      simp only [listD]
      by_cases hd : (d k).isSome = true
      · obtain ⟨v, hv⟩ := Option.isSome_iff_exists.1 hd
        simp [hv, h2 v hv]
      · simp [hd]
theorem ttS_eq {c : Nat → Bool → Q × Bool} {d : Nat → Option Q} (h : ∀ k s, (c k s).2 = (s && (d k).isSome) ∧ ∀ v, d k = some v → (c k s).1 = v) (ok : Bool) : nestS c 16 0 [] ok = ttV ok d := by
  rw [nestS_spec h]
  rfl

/-- The same, number by number. -/
def ttT (ok : Bool) (d : Nat → Option Q) : Bool := ok && allB (fun i => (d i).isSome) 0 16
def cmpQ (v : Q) (j : Nat) : Int := if j = 0 then v.1 else if j = 1 then v.2.1 else v.2.2
def ttH (ok : Bool) (d : Nat → Option Q) : Nat → Int := fun i => if ttT ok d = true then cmpQ ((d (i / 3)).getD zq) (i % 3) else 0
def ttW (ok : Bool) (d : Nat → Option Q) : List Value := ivs (ttH ok d) 0 48 ++ [.bool (ttT ok d)]
theorem ttV_eq (ok : Bool) (d : Nat → Option Q) : ttV ok d = ttW ok d := by
  have key : ∀ t : Bool, (if t = true then fl3 (listD d 0 16) ++ [Value.bool true] else zeros 48 ++ [.bool false]) = ivs (fun i => if t = true then cmpQ ((d (i / 3)).getD zq) (i % 3) else 0) 0 48 ++ [.bool t] := by
    intro t
    cases t
    · rfl
    · rfl
  exact key (ttT ok d)
end Go.Sx

/- Guarded calls, element by element. -/
namespace Go.Sx
open Go

def selL (b : Bool) : Nat → List Value → List Value
  | 0, _ => []
  | n + 1, outs => (if b = true then outs.headD undef else undef) :: selL b n outs.tail
theorem selL_true : ∀ (n : Nat) (outs : List Value), outs.length = n → selL true n outs = outs
  | 0, [], _ => rfl
  | n + 1, v :: r, h => by simp [selL, selL_true n r (by simpa using h)]
  | 0, _ :: _, h => by simp at h
  | n + 1, [], h => by simp at h
theorem selL_false : ∀ (n : Nat) (outs : List Value), selL false n outs = List.replicate n undef
  | 0, _ => rfl
  | n + 1, outs => by simp [selL, selL_false n outs.tail, List.replicate_succ]

def evalE' (Fs : List Fun1) : List Evn → List Value → List Value
  | [], env => env
  | .need _ :: r, env => evalE' Fs r env
  | .call k ins none _ :: r, env => evalE' Fs r (env ++ callF Fs k (evsIn env ins))
  | .call k ins (some g) n :: r, env => evalE' Fs r (env ++ selL (toB (ev env g)) n (callF Fs k (evsIn env ins)))
  | .prim _ _ :: r, env => evalE' Fs r env
  | .app _ _ _ :: r, env => evalE' Fs r env
def evalT' (Fs : List Fun1) : Tr → List Value → List Value
  | .fail _, _ => []
  | .evs l t, env => evalT' Fs t (evalE' Fs l env)
  | .ite c a b, env => if toB (ev env c) = true then evalT' Fs a env else evalT' Fs b env
  | .ret vs, env => evsIn env vs
  | .lp _ _ _ _, _ => []
  | .next _ _, _ => []
def lenE (lens : List Nat) : List Evn → Bool
  | [] => true
  | .call k _ (some _) n :: r => Nat.ble (k + 1) lens.length && Nat.beq n (lens.getD k 0) && lenE lens r
  | _ :: r => lenE lens r
def lenT (lens : List Nat) : Tr → Bool
  | .evs l t => lenE lens l && lenT lens t
  | .ite _ a b => lenT lens a && lenT lens b
  | _ => true
/-- What the callees give is of these lengths. -/
def Lens (Fs : List Fun1) (lens : List Nat) : Prop := ∀ k ins, k < lens.length → (callF Fs k ins).length = lens.getD k 0
theorem evalE_sel {Fs : List Fun1} {lens : List Nat} (hL : Lens Fs lens) : ∀ (l : List Evn) (env : List Value), lenE lens l = true → evalE Fs l env = evalE' Fs l env
  | [], env, _ => rfl
  | .need _ :: r, env, h => evalE_sel hL r env h
  | .call k ins none n :: r, env, h => evalE_sel hL r _ h
  | .call k ins (some g) n :: r, env, h => by
    simp only [lenE, Bool.and_eq_true] at h
    simp only [evalE, evalE']
    have hn := Nat.eq_of_beq_eq_true h.1.2
    cases hg : toB (ev env g) with
    | true =>
      rw [if_pos rfl, selL_true n _ (by rw [hL k _ (Nat.le_of_ble_eq_true h.1.1), hn])]
      exact evalE_sel hL r _ h.2
    | false =>
      rw [if_neg (by simp), selL_false]
      exact evalE_sel hL r _ h.2
  | .prim _ _ :: r, env, h => evalE_sel hL r env h
  | .app _ _ _ :: r, env, h => evalE_sel hL r env h
theorem evalT_sel {Fs : List Fun1} {lens : List Nat} (hL : Lens Fs lens) : ∀ (t : Tr) (env : List Value), lenT lens t = true → evalT Fs t env = evalT' Fs t env
  | .fail _, _, _ => rfl
  | .evs l t, env, h => by
    simp only [lenT, Bool.and_eq_true] at h
    simp only [evalT, evalT', evalE_sel hL l env h.1, evalT_sel hL t _ h.2]
  | .ite c a b, env, h => by
    simp only [lenT, Bool.and_eq_true] at h
    simp only [evalT, evalT', evalT_sel hL a env h.1, evalT_sel hL b env h.2]
  | .ret vs, env, _ => rfl
  | .lp _ _ _ _, _, _ => rfl
  | .next _ _, _, _ => rfl
theorem Lens.cons {F : Fun1} {Fs : List Fun1} {n : Nat} {lens : List Nat} (hF : ∀ ins, (F.out ins).length = n) (h : Lens Fs lens) : Lens (F :: Fs) (n :: lens) := by
  intro k ins hk
  cases k with
  | zero => exact hF ins
  | succ k => simpa [callF] using h k ins (by simpa using hk)
theorem Lens.nil {Fs : List Fun1} : Lens Fs [] := fun k ins h => by simp at h

/-- Both, the second looked at only where the first holds. -/
def andG (a b : Bool) : Bool := toB (if toB (.bool a) = true then (if a = true then .bool b else undef) else .bool false)
theorem andG_eq (a b : Bool) : andG a b = (a && b) := by cases a <;> rfl
end Go.Sx


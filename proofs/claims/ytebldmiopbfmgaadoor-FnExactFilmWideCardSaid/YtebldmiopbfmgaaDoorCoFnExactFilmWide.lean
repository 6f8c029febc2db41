/- The contracts of the functions. -/
import Derived.Test.YtebldmiopbfmgaaDoorChecked
import Derived.Test.YtebldmiopbfmgaaDoorRkAFnExactFilmWide
import Derived.WalkKit
import Derived.Laws.OwnMore
import Derived.Deep.MidRow
namespace Go.Proofs.YtebldmiopbfmgaaDoor
open Go Go.Sx Go.RowKit
set_option maxRecDepth 100000

def glb : List (Nat × List Sc) := [(0, [.e (.int .i64 (0)), .e (.int .i64 (0)), .e (.int .i64 (1))])]
theorem mixed : Tryd.prog.follows .mixedOrders = true := by kernel_rfl

def sg_size : Sig := { args := [.s (.e (.var 0))], pre := [], tin := [.int .i64], gin := [], res := .c (.s (.e (.var 0))), post := [], tout := [.int .i64], gout := [] }
def cl_size : List (Nat × Sig) := []
theorem run_size : run ⟨Tryd.prog, glb, cl_size⟩ [] Tryd.f73 sg_size (Tryd.f73.body.getD .skip) = tr_size := by kernel_rfl
theorem om_size : ΩOK ⟨Tryd.prog, glb, cl_size⟩ (specsOf Fs_size) := ΩOK_nil
theorem con_size : ConOK Tryd.prog glb 73 sg_size F_size.spec := conOK_tree om_size mixed Tryd.func73 (by kernel_rfl) run_size

def sg_within : Sig := { args := [.s (.e (.var 0)), .s (.e (.var 1)), .s (.e (.var 2))], pre := [], tin := [.int .i64, .int .i64, .int .i64], gin := [], res := .c (.s (.e (.var 0))), post := [], tout := [.bool], gout := [] }
def cl_within : List (Nat × Sig) := []
theorem run_within : run ⟨Tryd.prog, glb, cl_within⟩ [] Tryd.f60 sg_within (Tryd.f60.body.getD .skip) = tr_within := by kernel_rfl
theorem om_within : ΩOK ⟨Tryd.prog, glb, cl_within⟩ (specsOf Fs_within) := ΩOK_nil
theorem con_within : ConOK Tryd.prog glb 60 sg_within F_within.spec := conOK_tree om_within mixed Tryd.func60 (by kernel_rfl) run_within
theorem cong_within : ConOK Tryd.prog glb 60 sg_within G_within.spec := (con_within).as as_within

def sg_l6In : Sig := { args := [.s (.e (.var 0)), .s (.e (.var 1)), .s (.e (.var 2))], pre := [], tin := [.int .i64, .int .i64, .int .i64], gin := [], res := .c (.s (.e (.var 0))), post := [], tout := [.bool], gout := [] }
def cl_l6In : List (Nat × Sig) := []
theorem run_l6In : run ⟨Tryd.prog, glb, cl_l6In⟩ [] Tryd.f59 sg_l6In (Tryd.f59.body.getD .skip) = tr_l6In := by kernel_rfl
theorem om_l6In : ΩOK ⟨Tryd.prog, glb, cl_l6In⟩ (specsOf Fs_l6In) := ΩOK_nil
theorem con_l6In : ConOK Tryd.prog glb 59 sg_l6In F_l6In.spec := conOK_tree om_l6In mixed Tryd.func59 (by kernel_rfl) run_l6In
theorem cong_l6In : ConOK Tryd.prog glb 59 sg_l6In G_l6In.spec := (con_l6In).as as_l6In

def sg_l2In : Sig := { args := [.s (.e (.var 0))], pre := [], tin := [.int .i64], gin := [], res := .c (.s (.e (.var 0))), post := [], tout := [.bool], gout := [] }
def cl_l2In : List (Nat × Sig) := [(59, sg_l6In)]
theorem run_l2In : run ⟨Tryd.prog, glb, cl_l2In⟩ [] Tryd.f74 sg_l2In (Tryd.f74.body.getD .skip) = tr_l2In := by kernel_rfl
theorem om_l2In : ΩOK ⟨Tryd.prog, glb, cl_l2In⟩ (specsOf Fs_l2In) := (ΩOK_cons cong_l6In Tryd.call59 ΩOK_nil)
theorem con_l2In : ConOK Tryd.prog glb 74 sg_l2In F_l2In.spec := conOK_tree om_l2In mixed Tryd.func74 (by kernel_rfl) run_l2In
theorem cong_l2In : ConOK Tryd.prog glb 74 sg_l2In G_l2In.spec := (con_l2In).as as_l2In

def sg_divisor : Sig := { args := [.s (.e (.var 0)), .s (.e (.var 1))], pre := [], tin := [.int .i64, .int .i64], gin := [], res := .c (.s (.e (.var 0))), post := [], tout := [.int .i64], gout := [] }
def cl_divisor : List (Nat × Sig) := []
theorem run_divisor : run ⟨Tryd.prog, glb, cl_divisor⟩ [(0, ⟨[(0, .int .i64), (1, .int .i64)], [], none⟩)] Tryd.f72 sg_divisor (Tryd.f72.body.getD .skip) = tr_divisor := by kernel_rfl
theorem om_divisor : ΩOK ⟨Tryd.prog, glb, cl_divisor⟩ (specsOf Fs_divisor) := ΩOK_nil
theorem con_divisor : ConOK Tryd.prog glb 72 sg_divisor F_divisor.spec := conOK_of om_divisor mixed Tryd.func72 (by kernel_rfl) run_divisor (fun ins K ht h => sat_divisor Tryd.prog ins K ht h.1 h.2)

def sg_l2Gcd : Sig := { args := [.s (.e (.var 0)), .s (.e (.var 1))], pre := [], tin := [.int .i64, .int .i64], gin := [], res := .c (.s (.e (.var 0))), post := [], tout := [.int .i64], gout := [] }
def cl_l2Gcd : List (Nat × Sig) := []
theorem run_l2Gcd : run ⟨Tryd.prog, glb, cl_l2Gcd⟩ [(0, ⟨[(0, .int .i64), (1, .int .i64)], [], none⟩)] Tryd.f75 sg_l2Gcd (Tryd.f75.body.getD .skip) = tr_l2Gcd := by kernel_rfl
theorem om_l2Gcd : ΩOK ⟨Tryd.prog, glb, cl_l2Gcd⟩ (specsOf Fs_l2Gcd) := ΩOK_nil
theorem con_l2Gcd : ConOK Tryd.prog glb 75 sg_l2Gcd F_l2Gcd.spec := conOK_of om_l2Gcd mixed Tryd.func75 (by kernel_rfl) run_l2Gcd (fun ins K ht h => sat_l2Gcd Tryd.prog ins K ht h.1 h.2)

def sg_sFracValid : Sig := { args := [.ag [.e (.var 0), .e (.var 1), .e (.var 2)]], pre := [], tin := [.int .i64, .int .i64, .int .i64], gin := [], res := .c (.s (.e (.var 0))), post := [], tout := [.bool], gout := [] }
def cl_sFracValid : List (Nat × Sig) := [(74, sg_l2In), (59, sg_l6In), (75, sg_l2Gcd)]
theorem run_sFracValid : run ⟨Tryd.prog, glb, cl_sFracValid⟩ [] Tryd.f58 sg_sFracValid (Tryd.f58.body.getD .skip) = tr_sFracValid := by kernel_rfl
theorem om_sFracValid : ΩOK ⟨Tryd.prog, glb, cl_sFracValid⟩ (specsOf Fs_sFracValid) := (ΩOK_cons cong_l2In Tryd.call74 (ΩOK_cons cong_l6In Tryd.call59 (ΩOK_cons con_l2Gcd Tryd.call75 ΩOK_nil)))
theorem con_sFracValid : ConOK Tryd.prog glb 58 sg_sFracValid F_sFracValid.spec := conOK_tree om_sFracValid mixed Tryd.func58 (by kernel_rfl) run_sFracValid
theorem cong_sFracValid : ConOK Tryd.prog glb 58 sg_sFracValid G_sFracValid.spec := (con_sFracValid).as as_sFracValid

def sg_iFracValid : Sig := { args := [.ag [.e (.var 0), .e (.var 1), .e (.var 2)]], pre := [], tin := [.int .i64, .int .i64, .int .i64], gin := [], res := .c (.s (.e (.var 0))), post := [], tout := [.bool], gout := [] }
def cl_iFracValid : List (Nat × Sig) := [(60, sg_within), (72, sg_divisor), (73, sg_size)]
theorem run_iFracValid : run ⟨Tryd.prog, glb, cl_iFracValid⟩ [] Tryd.f57 sg_iFracValid (Tryd.f57.body.getD .skip) = tr_iFracValid := by kernel_rfl
theorem om_iFracValid : ΩOK ⟨Tryd.prog, glb, cl_iFracValid⟩ (specsOf Fs_iFracValid) := (ΩOK_cons cong_within Tryd.call60 (ΩOK_cons con_divisor Tryd.call72 (ΩOK_cons con_size Tryd.call73 ΩOK_nil)))
theorem con_iFracValid : ConOK Tryd.prog glb 57 sg_iFracValid F_iFracValid.spec := conOK_tree om_iFracValid mixed Tryd.func57 (by kernel_rfl) run_iFracValid
theorem cong_iFracValid : ConOK Tryd.prog glb 57 sg_iFracValid G_iFracValid.spec := (con_iFracValid).as as_iFracValid

def sg_toFrac : Sig := { args := [.ag [.e (.var 0), .e (.var 1), .e (.var 2)]], pre := [], tin := [.int .i64, .int .i64, .int .i64], gin := [], res := .c (.ag [.e (.var 0), .e (.var 1), .e (.var 2)]), post := [], tout := [.int .i64, .int .i64, .int .i64], gout := [] }
def cl_toFrac : List (Nat × Sig) := []
theorem run_toFrac : run ⟨Tryd.prog, glb, cl_toFrac⟩ [] Tryd.f16 sg_toFrac (Tryd.f16.body.getD .skip) = tr_toFrac := by kernel_rfl
theorem om_toFrac : ΩOK ⟨Tryd.prog, glb, cl_toFrac⟩ (specsOf Fs_toFrac) := ΩOK_nil
theorem con_toFrac : ConOK Tryd.prog glb 16 sg_toFrac F_toFrac.spec := conOK_tree om_toFrac mixed Tryd.func16 (by kernel_rfl) run_toFrac

def sg_eqFrac : Sig := { args := [.ag [.e (.var 0), .e (.var 1), .e (.var 2)], .ag [.e (.var 3), .e (.var 4), .e (.var 5)]], pre := [], tin := [.int .i64, .int .i64, .int .i64, .int .i64, .int .i64, .int .i64], gin := [], res := .c (.s (.e (.var 0))), post := [], tout := [.bool], gout := [] }
def cl_eqFrac : List (Nat × Sig) := []
theorem run_eqFrac : run ⟨Tryd.prog, glb, cl_eqFrac⟩ [] Tryd.f61 sg_eqFrac (Tryd.f61.body.getD .skip) = tr_eqFrac := by kernel_rfl
theorem om_eqFrac : ΩOK ⟨Tryd.prog, glb, cl_eqFrac⟩ (specsOf Fs_eqFrac) := ΩOK_nil
theorem con_eqFrac : ConOK Tryd.prog glb 61 sg_eqFrac F_eqFrac.spec := conOK_tree om_eqFrac mixed Tryd.func61 (by kernel_rfl) run_eqFrac
theorem cong_eqFrac : ConOK Tryd.prog glb 61 sg_eqFrac G_eqFrac.spec := (con_eqFrac).as as_eqFrac

def sg_szL : Sig := { args := [.s (.e (.var 0)), .s (.e (.var 1))], pre := [], tin := [.sl, .int .i64], gin := [], res := .c (.s (.e (.var 0))), post := [], tout := [.int .i64], gout := [] }
def cl_szL : List (Nat × Sig) := []
theorem run_szL : run ⟨Tryd.prog, glb, cl_szL⟩ [] Tryd.f8 sg_szL (Tryd.f8.body.getD .skip) = tr_szL := by kernel_rfl
theorem om_szL : ΩOK ⟨Tryd.prog, glb, cl_szL⟩ (specsOf Fs_szL) := ΩOK_nil
theorem con_szL : ConOK Tryd.prog glb 8 sg_szL F_szL.spec := conOK_tree om_szL mixed Tryd.func8 (by kernel_rfl) run_szL

def sg_toLayer : Sig := { args := [.ag [.e (.var 0), .e (.var 1), .e (.var 2), .e (.var 3)]], pre := [], tin := [.int .i64, .int .i64, .int .i64, .int .i64], gin := [], res := .c (.ag [.e (.var 0), .e (.var 1), .e (.var 2), .e (.var 3)]), post := [], tout := [.int .i64, .int .i64, .int .i64, .int .i64], gout := [] }
def cl_toLayer : List (Nat × Sig) := [(16, sg_toFrac)]
theorem run_toLayer : run ⟨Tryd.prog, glb, cl_toLayer⟩ [] Tryd.f30 sg_toLayer (Tryd.f30.body.getD .skip) = tr_toLayer := by kernel_rfl
theorem om_toLayer : ΩOK ⟨Tryd.prog, glb, cl_toLayer⟩ (specsOf Fs_toLayer) := (ΩOK_cons con_toFrac Tryd.call16 ΩOK_nil)
theorem con_toLayer : ConOK Tryd.prog glb 30 sg_toLayer F_toLayer.spec := conOK_tree om_toLayer mixed Tryd.func30 (by kernel_rfl) run_toLayer

def sg_toL : Sig := { args := [.s (.e (.var 0))], pre := [], tin := [.sl, .row .i64 4], gin := [(0, 1, 4)], res := .c (.s (.e (.var 0))), post := [], tout := [.sl, .row .i64 4], gout := [(0, 1, 4)] }
theorem run0_toFrac : run ⟨Tryd.prog, [], []⟩ [] Tryd.f16 sg_toFrac (Tryd.f16.body.getD .skip) = tr_toFrac := by kernel_rfl
theorem con0_toFrac : ConOK Tryd.prog [] 16 sg_toFrac F_toFrac.spec := conOK_tree ΩOK_nil mixed Tryd.func16 (by kernel_rfl) run0_toFrac
theorem run0_toLayer : run ⟨Tryd.prog, [], [(16, sg_toFrac)]⟩ [] Tryd.f30 sgFour (Tryd.f30.body.getD .skip) = tr_toLayer := by kernel_rfl
theorem con0_toLayer : ConOK Tryd.prog [] 30 sgFour F_toLayer.spec := conOK_tree (Fs := Fs_toLayer) (ΩOK_cons con0_toFrac Tryd.call16 ΩOK_nil) mixed Tryd.func30 (by kernel_rfl) run0_toLayer
theorem toL_elem (x0 x1 x2 x3 : Int) (h0 : IntKind.i64.wrap x0 = x0) (h1 : IntKind.i64.wrap x1 = x1) (h2 : IntKind.i64.wrap x2 = x2) (h3 : IntKind.i64.wrap x3 = x3) (w : World) : Calls Tryd.prog 30 #[.agg #[.int .i64 x0, .int .i64 x1, .int .i64 x2, .int .i64 x3]] w fun e w' => e = .returned (.agg #[.int .i64 x0, .int .i64 x1, .int .i64 x2, .int .i64 x3]) ∧ RowKit.Below w.heap.size w w' :=
  calls_four con0_toLayer (fun _ => okT_free (by intro F hF ins; simp only [Fs_toLayer, List.mem_singleton] at hF; rw [hF]; exact okT_free (fun F hF => by cases hF) _ _ (by kernel_rfl)) _ _ (by kernel_rfl)) (by kernel_rfl) x0 x1 x2 x3 h0 h1 h2 h3 w
theorem toL_make (w : World) (len : Nat) (hl : len ≤ 1048576) : (Instr.makeSlice 24 (.int .i64 len) (.int .i64 len)).run Tryd.prog w = .ok (.slice (some ⟨w.heap.size, 0, none⟩) len len) (w.alloc (.cells (madeCells #[.int .i64 0, .int .i64 0, .int .i64 0, .int .i64 0] (len * 4)) 49)) := by
  obtain ⟨i, hi⟩ := Option.isSome_iff_exists.1 (by kernel_rfl : (Tryd.prog.info? 49).isSome = true)
  have hz : i.zero = some (.agg #[.int .i64 0, .int .i64 0, .int .i64 0, .int .i64 0]) := by
    have h : (Tryd.prog.info? 49).bind (·.zero) = some (.agg #[.int .i64 0, .int .i64 0, .int .i64 0, .int .i64 0]) := by kernel_rfl
    rw [hi] at h; exact h
  have hs : i.size = 4 := by
    have h : (Tryd.prog.info? 49).map (·.size) = some 4 := by kernel_rfl
    rw [hi] at h; exact Option.some.inj h
  have hb : i.bytes = 32 := by
    have h : (Tryd.prog.info? 49).map (·.bytes) = some 32 := by kernel_rfl
    rw [hi] at h; exact Option.some.inj h
  have h := run_makeSlice w 24 49 i (.agg #[.int .i64 0, .int .i64 0, .int .i64 0, .int .i64 0]) Tryd.underlying24 hi hz .i64 .i64 (len : Int) (len : Int) (by omega) (Int.le_refl _) (by rw [hs, Int.toNat_natCast]; omega) (by rw [hb]; omega) (by omega)
  rw [hs] at h
  simp only [Int.toNat_natCast] at h
  exact h
set_option maxHeartbeats 800000 in
set_option maxRecDepth 1000000 in
theorem toL_walk (b off len cap : Nat) (zs : Nat → Int) (w : World) (hl : len ≤ 1048576) (hb : b < w.heap.size) (h64 : ∀ j, j < 4 * len → IntKind.i64.wrap (zs j) = zs j)
    (hc : ∀ j, j < 4 * len → w.cell? ⟨b, off + j, none⟩ = some (.int .i64 (zs j))) :
    Calls Tryd.prog 10 #[.slice (some ⟨b, off, none⟩) len cap] w fun e w' =>
      e = .returned (.slice (some ⟨w.heap.size, 0, none⟩) len len) ∧ RowKit.Below w.heap.size w w' ∧ w.heap.size < w'.heap.size ∧ ∀ j, j < 4 * len → w'.cell? ⟨w.heap.size, j, none⟩ = some (.int .i64 (zs j)) := by
  have hmk := toL_make w len hl
  go_enter Tryd.func10, Tryd.ntmps10
  go_wp2
  go_loopw [4] (fun i wr => ∃ k : Nat, k ≤ len ∧ i = .int .i64 k ∧ RowKit.Below w.heap.size w wr ∧ w.heap.size < wr.heap.size ∧ wr.there w.heap.size 0 (4 * len) ∧ ∀ j, j < 4 * k → wr.cell? ⟨w.heap.size, j, none⟩ = some (.int .i64 (zs j)))
    (fun i _ => len - (match i with | .int _ n => n.toNat | _ => 0))
  case atStart =>
    refine ⟨0, Nat.zero_le _, rfl, (RowKit.Below.refl _ _).alloc (Nat.le_refl _) _, by show _ < (w.heap.push _).size; rw [Array.size_push]; omega, fun j hj => ⟨?_, ?_⟩, fun j hj => by omega⟩
    · rw [Nat.zero_add, World.cell?_alloc_at _ _ _ _ rfl, Array.getElem?_eq_getElem (by rw [size_madeCells]; omega)]; rfl
    · exact World.frozen?_alloc_at _ _ _ _ rfl
  case round =>
    obtain ⟨k, hk, rfl, hB, hs, hth, heq⟩ := hrel
    by_cases hlt : k < len
    · have c0 : wr.cell? ⟨b, off + k * 4, none⟩ = some (.int .i64 (zs (4 * k))) := by rw [hB.cell hb, show off + k * 4 = off + 4 * k by omega]; exact hc _ (by omega)
      have c1 : wr.cell? ⟨b, off + k * 4 + 1, none⟩ = some (.int .i64 (zs (4 * k + 1))) := by rw [hB.cell hb, show off + k * 4 + 1 = off + (4 * k + 1) by omega]; exact hc _ (by omega)
      have c2 : wr.cell? ⟨b, off + k * 4 + 2, none⟩ = some (.int .i64 (zs (4 * k + 2))) := by rw [hB.cell hb, show off + k * 4 + 2 = off + (4 * k + 2) by omega]; exact hc _ (by omega)
      have c3 : wr.cell? ⟨b, off + k * 4 + 3, none⟩ = some (.int .i64 (zs (4 * k + 3))) := by rw [hB.cell hb, show off + k * 4 + 3 = off + (4 * k + 3) by omega]; exact hc _ (by omega)
      go_wp2_with fail
      refine (toL_elem _ _ _ _ (h64 _ (by omega)) (h64 _ (by omega)) (h64 _ (by omega)) (h64 _ (by omega)) _).mono ?_
      rintro e w1 ⟨rfl, hB1⟩
      have hth1 : w1.there w.heap.size 0 (4 * len) := fun j hj => by
        rw [hB1.cell hs, hB1.frozen hs]
        exact hth j hj
      have hth2 : w1.there w.heap.size (k * 4) 4 := fun j hj => by
        have := hth1 (k * 4 + j) (by omega)
        rwa [Nat.zero_add] at this
      have hone := all_oneCell_toArray (cs := [.int .i64 (zs (4 * k)), .int .i64 (zs (4 * k + 1)), .int .i64 (zs (4 * k + 2)), .int .i64 (zs (4 * k + 3))]) (by intro v hv; simp only [List.mem_cons, List.not_mem_nil, or_false] at hv; rcases hv with rfl | rfl | rfl | rfl <;> rfl)
      go_wp2_with (first | (refine wpList_store_mid rfl 49 (.tmp 21) (.tmp 20) rfl w.heap.size (k * 4) _ rfl rfl hth2 (by kernel_rfl) hone ?_) | fail)
      go_roundw
      case rel =>
        refine ⟨k + 1, by omega, by simp, ?_, ?_, ?_, ?_⟩
        · exact (((hB.trans (hB1.mono (by omega))).setCell (p := ⟨w.heap.size, k * 4, none⟩) (Nat.le_refl _) _).setCell (p := ⟨w.heap.size, k * 4 + 1, none⟩) (Nat.le_refl _) _).setCell (p := ⟨w.heap.size, k * 4 + 2, none⟩) (Nat.le_refl _) _ |>.setCell (p := ⟨w.heap.size, k * 4 + 3, none⟩) (Nat.le_refl _) _
        · have := hB1.size; simp [World.setCells, World.setCell]; omega
        · exact World.there_setCells hth1 _ _ _
        · intro j hj
          by_cases h : j < 4 * k
          · rw [World.cell?_setCells_out _ _ _ _ _ (fun _ _ => Or.inl (by show j < k * 4; omega)), hB1.cell hs]
            exact heq j h
          · have := World.rangeAt_setCells_same w1 w.heap.size (k * 4) [.int .i64 (zs (4 * k)), .int .i64 (zs (4 * k + 1)), .int .i64 (zs (4 * k + 2)), .int .i64 (zs (4 * k + 3))] hth2 (j - k * 4)
            rw [show k * 4 + (j - k * 4) = j by omega] at this
            obtain ⟨i, hi, rfl⟩ : ∃ i, i < 4 ∧ j = 4 * k + i := ⟨j - 4 * k, by omega, by omega⟩
            rw [show 4 * k + i - k * 4 = i by omega] at this
            match i, hi with
            | 0, _ => exact this _ rfl
            | 1, _ => exact this _ rfl
            | 2, _ => exact this _ rfl
            | 3, _ => exact this _ rfl
      case measure => simp; omega
    · have hk2 : k = len := by omega
      subst hk2
      go_wp2
      go_ret
      exact ⟨rfl, hB, hs, heq⟩
set_option maxHeartbeats 800000 in
set_option maxRecDepth 1000000 in
theorem toL_nil (cap : Nat) (w : World) : Calls Tryd.prog 10 #[.slice none 0 cap] w fun e w' => e = .returned (.slice (some ⟨w.heap.size, 0, none⟩) 0 0) ∧ RowKit.Below w.heap.size w w' ∧ w.heap.size < w'.heap.size := by
  have hmk : (Instr.makeSlice 24 (.int .i64 0) (.int .i64 0)).run Tryd.prog w = .ok (.slice (some ⟨w.heap.size, 0, none⟩) 0 0) (w.alloc (.cells (madeCells #[.int .i64 0, .int .i64 0, .int .i64 0, .int .i64 0] (0 * 4)) 49)) := toL_make w 0 (by omega)
  go_enter Tryd.func10, Tryd.ntmps10
  go_wp2
  refine wp_loop_rounds 1 ?_
  rw [rounds_succ]
  go_wp2
  go_ret
  exact ⟨rfl, (RowKit.Below.refl _ _).alloc (Nat.le_refl _) _, by show _ < (w.heap.push _).size; rw [Array.size_push]; omega⟩
theorem con_toL : ConOK Tryd.prog glb 10 sg_toL SP_toL := conOK_copy toL_walk toL_nil


def sg_eqLayer : Sig := { args := [.ag [.e (.var 0), .e (.var 1), .e (.var 2), .e (.var 3)], .ag [.e (.var 4), .e (.var 5), .e (.var 6), .e (.var 7)]], pre := [], tin := [.int .i64, .int .i64, .int .i64, .int .i64, .int .i64, .int .i64, .int .i64, .int .i64], gin := [], res := .c (.s (.e (.var 0))), post := [], tout := [.bool], gout := [] }
def cl_eqLayer : List (Nat × Sig) := [(61, sg_eqFrac)]
theorem run_eqLayer : run ⟨Tryd.prog, glb, cl_eqLayer⟩ [] Tryd.f33 sg_eqLayer (Tryd.f33.body.getD .skip) = tr_eqLayer := by kernel_rfl
theorem om_eqLayer : ΩOK ⟨Tryd.prog, glb, cl_eqLayer⟩ (specsOf Fs_eqLayer) := (ΩOK_cons cong_eqFrac Tryd.call61 ΩOK_nil)
theorem con_eqLayer : ConOK Tryd.prog glb 33 sg_eqLayer F_eqLayer.spec := conOK_tree om_eqLayer mixed Tryd.func33 (by kernel_rfl) run_eqLayer
theorem cong_eqLayer : ConOK Tryd.prog glb 33 sg_eqLayer G_eqLayer.spec := (con_eqLayer).as as_eqLayer

def sg_eqLayerS : Sig := { args := [.s (.e (.var 0)), .s (.e (.var 1))], pre := [], tin := [.sl, .sl, .row .i64 4, .row .i64 4], gin := [(0, 2, 4), (1, 3, 4)], res := .c (.s (.e (.var 0))), post := [], tout := [.bool], gout := [] }
def cl_eqLayerS : List (Nat × Sig) := [(33, sg_eqLayer)]
theorem run_eqLayerS : run ⟨Tryd.prog, glb, cl_eqLayerS⟩ [(0, ⟨[(5, .int .i64)], [], none⟩)] Tryd.f12 sg_eqLayerS (Tryd.f12.body.getD .skip) = tr_eqLayerS := by kernel_rfl
theorem om_eqLayerS : ΩOK ⟨Tryd.prog, glb, cl_eqLayerS⟩ (specsOf Fs_eqLayerS) := (ΩOK_cons cong_eqLayer Tryd.call33 ΩOK_nil)
theorem con_eqLayerS : ConOK Tryd.prog glb 12 sg_eqLayerS F_eqLayerS.spec := conOK_of om_eqLayerS mixed Tryd.func12 (by kernel_rfl) run_eqLayerS (fun ins K ht h => sat_eqLayerS Tryd.prog ins K ht h.1 h.2)

def sg_indexOk : Sig := { args := [.ag [.e (.var 0), .e (.var 1), .e (.var 2)]], pre := [], tin := [.int .i64, .int .i64, .int .i64], gin := [], res := .c (.s (.e (.var 0))), post := [], tout := [.bool], gout := [] }
def cl_indexOk : List (Nat × Sig) := [(57, sg_iFracValid)]
theorem run_indexOk : run ⟨Tryd.prog, glb, cl_indexOk⟩ [] Tryd.f39 sg_indexOk (Tryd.f39.body.getD .skip) = tr_indexOk := by kernel_rfl
theorem om_indexOk : ΩOK ⟨Tryd.prog, glb, cl_indexOk⟩ (specsOf Fs_indexOk) := (ΩOK_cons cong_iFracValid Tryd.call57 ΩOK_nil)
theorem con_indexOk : ConOK Tryd.prog glb 39 sg_indexOk F_indexOk.spec := conOK_tree om_indexOk mixed Tryd.func39 (by kernel_rfl) run_indexOk
theorem cong_indexOk : ConOK Tryd.prog glb 39 sg_indexOk G_indexOk.spec := (con_indexOk).as as_indexOk

def sg_iFilmValid : Sig := { args := [.s (.e (.var 0))], pre := [], tin := [.sl, .row .i64 4], gin := [(0, 1, 4)], res := .c (.s (.e (.var 0))), post := [], tout := [.bool], gout := [] }
def cl_iFilmValid : List (Nat × Sig) := [(39, sg_indexOk), (60, sg_within)]
theorem run_iFilmValid : run ⟨Tryd.prog, glb, cl_iFilmValid⟩ [(0, ⟨[(7, .int .i64)], [], none⟩)] Tryd.f31 sg_iFilmValid (Tryd.f31.body.getD .skip) = tr_iFilmValid := by kernel_rfl
theorem om_iFilmValid : ΩOK ⟨Tryd.prog, glb, cl_iFilmValid⟩ (specsOf Fs_iFilmValid) := (ΩOK_cons cong_indexOk Tryd.call39 (ΩOK_cons cong_within Tryd.call60 ΩOK_nil))
theorem con_iFilmValid : ConOK Tryd.prog glb 31 sg_iFilmValid F_iFilmValid.spec := conOK_of om_iFilmValid mixed Tryd.func31 (by kernel_rfl) run_iFilmValid (fun ins K ht h => sat_iFilmValid Tryd.prog ins K ht h.1 h.2)

def sg_sFilmValid : Sig := { args := [.s (.e (.var 0))], pre := [], tin := [.sl, .row .i64 4], gin := [(0, 1, 4)], res := .c (.s (.e (.var 0))), post := [], tout := [.bool], gout := [] }
def cl_sFilmValid : List (Nat × Sig) := [(58, sg_sFracValid), (59, sg_l6In)]
theorem run_sFilmValid : run ⟨Tryd.prog, glb, cl_sFilmValid⟩ [(0, ⟨[(3, .int .i64)], [], none⟩)] Tryd.f29 sg_sFilmValid (Tryd.f29.body.getD .skip) = tr_sFilmValid := by kernel_rfl
theorem om_sFilmValid : ΩOK ⟨Tryd.prog, glb, cl_sFilmValid⟩ (specsOf Fs_sFilmValid) := (ΩOK_cons cong_sFracValid Tryd.call58 (ΩOK_cons cong_l6In Tryd.call59 ΩOK_nil))
theorem con_sFilmValid : ConOK Tryd.prog glb 29 sg_sFilmValid F_sFilmValid.spec := conOK_of om_sFilmValid mixed Tryd.func29 (by kernel_rfl) run_sFilmValid (fun ins K ht h => sat_sFilmValid Tryd.prog ins K ht h.1 h.2)

def sg_revL : Sig := { args := [.s (.e (.var 0))], pre := [], tin := [.sl, .row .i64 4], gin := [(0, 1, 4)], res := .c (.s (.e (.var 0))), post := [], tout := [.sl, .row .i64 4], gout := [(0, 1, 4)] }
def cl_revL : List (Nat × Sig) := []
theorem run_revL : run ⟨Tryd.prog, glb, cl_revL⟩ [(0, ⟨[(3, .sl), (4, .int .i64)], [], some (0, .row .i64 4, 4, 49)⟩)] Tryd.f32 sg_revL (Tryd.f32.body.getD .skip) = tr_revL := by kernel_rfl
theorem om_revL : ΩOK ⟨Tryd.prog, glb, cl_revL⟩ (specsOf Fs_revL) := ΩOK_nil
theorem con_revL : ConOK Tryd.prog glb 32 sg_revL SP_revL := conOK_of om_revL mixed Tryd.func32 (by kernel_rfl) run_revL (fun ins K ht h => sat_revL Tryd.prog ins K ht h)

def sg_iFracWide : Sig := { args := [.ag [.e (.var 0), .e (.var 1), .e (.var 2)]], pre := [], tin := [.int .i64, .int .i64, .int .i64], gin := [], res := .tu [.s (.e (.var 0)), .s (.e (.var 1))], post := [], tout := [.cpx .f64, .bool], gout := [] }
def cl_iFracWide : List (Nat × Sig) := [(57, sg_iFracValid)]
theorem run_iFracWide : run ⟨Tryd.prog, glb, cl_iFracWide⟩ [] Tryd.f28 sg_iFracWide (Tryd.f28.body.getD .skip) = tr_iFracWide := by kernel_rfl
theorem om_iFracWide : ΩOK ⟨Tryd.prog, glb, cl_iFracWide⟩ (specsOf Fs_iFracWide) := (ΩOK_cons cong_iFracValid Tryd.call57 ΩOK_nil)
theorem con_iFracWide : ConOK Tryd.prog glb 28 sg_iFracWide SP_iFracWide := conOK_of om_iFracWide mixed Tryd.func28 (by kernel_rfl) run_iFracWide (fun ins K ht h => sat_iFracWide Tryd.prog ins K ht h)

def sg_sFracWide : Sig := { args := [.ag [.e (.var 0), .e (.var 1), .e (.var 2)]], pre := [], tin := [.int .i64, .int .i64, .int .i64], gin := [], res := .tu [.s (.e (.var 0)), .s (.e (.var 1))], post := [], tout := [.cpx .f64, .bool], gout := [] }
def cl_sFracWide : List (Nat × Sig) := [(58, sg_sFracValid)]
theorem run_sFracWide : run ⟨Tryd.prog, glb, cl_sFracWide⟩ [] Tryd.f35 sg_sFracWide (Tryd.f35.body.getD .skip) = tr_sFracWide := by kernel_rfl
theorem om_sFracWide : ΩOK ⟨Tryd.prog, glb, cl_sFracWide⟩ (specsOf Fs_sFracWide) := (ΩOK_cons cong_sFracValid Tryd.call58 ΩOK_nil)
theorem con_sFracWide : ConOK Tryd.prog glb 35 sg_sFracWide SP_sFracWide := conOK_of om_sFracWide mixed Tryd.func35 (by kernel_rfl) run_sFracWide (fun ins K ht h => sat_sFracWide Tryd.prog ins K ht h)

def sg_iWideTimes : Sig := { args := [.s (.e (.var 0)), .s (.e (.var 1))], pre := [], tin := [.cpx .f64, .cpx .f64], gin := [], res := .c (.s (.e (.var 0))), post := [], tout := [.cpx .f64], gout := [] }
def cl_iWideTimes : List (Nat × Sig) := []
theorem run_iWideTimes : run ⟨Tryd.prog, glb, cl_iWideTimes⟩ [] Tryd.f41 sg_iWideTimes (Tryd.f41.body.getD .skip) = tr_iWideTimes := by kernel_rfl
theorem om_iWideTimes : ΩOK ⟨Tryd.prog, glb, cl_iWideTimes⟩ (specsOf Fs_iWideTimes) := ΩOK_nil
theorem con_iWideTimes : ConOK Tryd.prog glb 41 sg_iWideTimes SP_iWideTimes := conOK_of om_iWideTimes mixed Tryd.func41 (by kernel_rfl) run_iWideTimes (fun ins K ht h => sat_iWideTimes Tryd.prog ins K ht h)

def sg_sWideTimes : Sig := { args := [.s (.e (.var 0)), .s (.e (.var 1))], pre := [], tin := [.cpx .f64, .cpx .f64], gin := [], res := .c (.s (.e (.var 0))), post := [], tout := [.cpx .f64], gout := [] }
def cl_sWideTimes : List (Nat × Sig) := []
theorem run_sWideTimes : run ⟨Tryd.prog, glb, cl_sWideTimes⟩ [] Tryd.f37 sg_sWideTimes (Tryd.f37.body.getD .skip) = tr_sWideTimes := by kernel_rfl
theorem om_sWideTimes : ΩOK ⟨Tryd.prog, glb, cl_sWideTimes⟩ (specsOf Fs_sWideTimes) := ΩOK_nil
theorem con_sWideTimes : ConOK Tryd.prog glb 37 sg_sWideTimes SP_sWideTimes := conOK_of om_sWideTimes mixed Tryd.func37 (by kernel_rfl) run_sWideTimes (fun ins K ht h => sat_sWideTimes Tryd.prog ins K ht h)

def sg_iWideOver : Sig := { args := [.s (.e (.var 0)), .s (.e (.var 1))], pre := [], tin := [.cpx .f64, .cpx .f64], gin := [], res := .c (.s (.e (.var 0))), post := [], tout := [.cpx .f64], gout := [] }
def cl_iWideOver : List (Nat × Sig) := []
theorem run_iWideOver : run ⟨Tryd.prog, glb, cl_iWideOver⟩ [] Tryd.f40 sg_iWideOver (Tryd.f40.body.getD .skip) = tr_iWideOver := by kernel_rfl
theorem om_iWideOver : ΩOK ⟨Tryd.prog, glb, cl_iWideOver⟩ (specsOf Fs_iWideOver) := ΩOK_nil
theorem con_iWideOver : ConOK Tryd.prog glb 40 sg_iWideOver SP_iWideOver := conOK_of om_iWideOver mixed Tryd.func40 (by kernel_rfl) run_iWideOver (fun ins K ht h => sat_iWideOver Tryd.prog ins K ht h)

def sg_sWideOver : Sig := { args := [.s (.e (.var 0)), .s (.e (.var 1))], pre := [], tin := [.cpx .f64, .cpx .f64], gin := [], res := .c (.s (.e (.var 0))), post := [], tout := [.cpx .f64], gout := [] }
def cl_sWideOver : List (Nat × Sig) := []
theorem run_sWideOver : run ⟨Tryd.prog, glb, cl_sWideOver⟩ [] Tryd.f38 sg_sWideOver (Tryd.f38.body.getD .skip) = tr_sWideOver := by kernel_rfl
theorem om_sWideOver : ΩOK ⟨Tryd.prog, glb, cl_sWideOver⟩ (specsOf Fs_sWideOver) := ΩOK_nil
theorem con_sWideOver : ConOK Tryd.prog glb 38 sg_sWideOver SP_sWideOver := conOK_of om_sWideOver mixed Tryd.func38 (by kernel_rfl) run_sWideOver (fun ins K ht h => sat_sWideOver Tryd.prog ins K ht h)

def sg_l8Wide : Sig := { args := [.ag [.e (.var 0), .e (.var 1), .e (.var 2), .e (.var 3)], .s (.e (.var 4)), .s (.e (.var 5))], pre := [], tin := [.int .i64, .int .i64, .int .i64, .int .i64, .cpx .f64, .cpx .f64], gin := [], res := .tu [.s (.e (.var 0)), .s (.e (.var 1))], post := [], tout := [.cpx .f64, .cpx .f64], gout := [] }
def cl_l8Wide : List (Nat × Sig) := [(35, sg_sFracWide), (37, sg_sWideTimes), (38, sg_sWideOver)]
theorem run_l8Wide : run ⟨Tryd.prog, glb, cl_l8Wide⟩ [] Tryd.f36 sg_l8Wide (Tryd.f36.body.getD .skip) = tr_l8Wide := by kernel_rfl
theorem om_l8Wide : ΩOK ⟨Tryd.prog, glb, cl_l8Wide⟩ Ss_l8Wide := (ΩOK_consS con_sFracWide Tryd.call35 (ΩOK_consS con_sWideTimes Tryd.call37 (ΩOK_consS con_sWideOver Tryd.call38 ΩOK_nilS)))
theorem con_l8Wide : ConOK Tryd.prog glb 36 sg_l8Wide SP_l8Wide := conOK_of om_l8Wide mixed Tryd.func36 (by kernel_rfl) run_l8Wide (fun ins K ht h => sat_l8Wide Tryd.prog ins K ht h)

def sg_l8Given : Sig := { args := [.s (.e (.var 0)), .ag [.e (.var 1), .e (.var 2), .e (.var 3)], .ag [.e (.var 4), .e (.var 5), .e (.var 6)]], pre := [], tin := [.sl, .int .i64, .int .i64, .int .i64, .int .i64, .int .i64, .int .i64, .row .i64 4], gin := [(0, 7, 4)], res := .c (.s (.e (.var 0))), post := [], tout := [.bool], gout := [] }
def cl_l8Given : List (Nat × Sig) := [(29, sg_sFilmValid), (58, sg_sFracValid)]
theorem run_l8Given : run ⟨Tryd.prog, glb, cl_l8Given⟩ [] Tryd.f34 sg_l8Given (Tryd.f34.body.getD .skip) = tr_l8Given := by kernel_rfl
theorem om_l8Given : ΩOK ⟨Tryd.prog, glb, cl_l8Given⟩ (specsOf Fs_l8Given) := (ΩOK_cons con_sFilmValid Tryd.call29 (ΩOK_cons cong_sFracValid Tryd.call58 ΩOK_nil))
theorem con_l8Given : ConOK Tryd.prog glb 34 sg_l8Given F_l8Given.spec := conOK_tree om_l8Given mixed Tryd.func34 (by kernel_rfl) run_l8Given
theorem cong_l8Given : ConOK Tryd.prog glb 34 sg_l8Given G_l8Given.spec := (con_l8Given).as as_l8Given

def sg_iFilmWide : Sig := { args := [.s (.e (.var 0)), .ag [.e (.var 1), .e (.var 2), .e (.var 3)], .ag [.e (.var 4), .e (.var 5), .e (.var 6)]], pre := [], tin := [.sl, .int .i64, .int .i64, .int .i64, .int .i64, .int .i64, .int .i64, .row .i64 4], gin := [(0, 7, 4)], res := .tu [.s (.e (.var 0)), .s (.e (.var 1))], post := [], tout := [.cpx .f64, .bool], gout := [] }
def cl_iFilmWide : List (Nat × Sig) := [(31, sg_iFilmValid), (39, sg_indexOk), (28, sg_iFracWide), (32, sg_revL), (41, sg_iWideTimes), (40, sg_iWideOver)]
theorem run_iFilmWide : run ⟨Tryd.prog, glb, cl_iFilmWide⟩ [(0, ⟨[(39, .int .i64), (8, .cpx .f64), (9, .cpx .f64)], [], none⟩)] Tryd.f17 sg_iFilmWide (Tryd.f17.body.getD .skip) = tr_iFilmWide := by kernel_rfl
theorem om_iFilmWide : ΩOK ⟨Tryd.prog, glb, cl_iFilmWide⟩ Ss_iFilmWide := (ΩOK_consS con_iFilmValid Tryd.call31 (ΩOK_consS cong_indexOk Tryd.call39 (ΩOK_consS con_iFracWide Tryd.call28 (ΩOK_consS con_revL Tryd.call32 (ΩOK_consS con_iWideTimes Tryd.call41 (ΩOK_consS con_iWideOver Tryd.call40 ΩOK_nilS))))))
theorem con_iFilmWide : ConOK Tryd.prog glb 17 sg_iFilmWide SP_iFilmWide := conOK_of om_iFilmWide mixed Tryd.func17 (by kernel_rfl) run_iFilmWide (fun ins K ht h => sat_iFilmWide Tryd.prog ins K ht h)

def sg_sFilmWide : Sig := { args := [.s (.e (.var 0)), .ag [.e (.var 1), .e (.var 2), .e (.var 3)], .ag [.e (.var 4), .e (.var 5), .e (.var 6)]], pre := [], tin := [.sl, .int .i64, .int .i64, .int .i64, .int .i64, .int .i64, .int .i64, .row .i64 4], gin := [(0, 7, 4)], res := .tu [.s (.e (.var 0)), .s (.e (.var 1))], post := [], tout := [.cpx .f64, .bool], gout := [] }
def cl_sFilmWide : List (Nat × Sig) := [(34, sg_l8Given), (35, sg_sFracWide), (36, sg_l8Wide), (37, sg_sWideTimes), (38, sg_sWideOver)]
theorem run_sFilmWide : run ⟨Tryd.prog, glb, cl_sFilmWide⟩ [(0, ⟨[(11, .int .i64), (8, .cpx .f64), (9, .cpx .f64)], [], none⟩)] Tryd.f15 sg_sFilmWide (Tryd.f15.body.getD .skip) = tr_sFilmWide := by kernel_rfl
theorem om_sFilmWide : ΩOK ⟨Tryd.prog, glb, cl_sFilmWide⟩ Ss_sFilmWide := (ΩOK_consS cong_l8Given Tryd.call34 (ΩOK_consS con_sFracWide Tryd.call35 (ΩOK_consS con_l8Wide Tryd.call36 (ΩOK_consS con_sWideTimes Tryd.call37 (ΩOK_consS con_sWideOver Tryd.call38 ΩOK_nilS)))))
theorem con_sFilmWide : ConOK Tryd.prog glb 15 sg_sFilmWide SP_sFilmWide := conOK_of om_sFilmWide mixed Tryd.func15 (by kernel_rfl) run_sFilmWide (fun ins K ht h => sat_sFilmWide Tryd.prog ins K ht h)

def sg_sameFloat : Sig := { args := [.s (.e (.var 0)), .s (.e (.var 1))], pre := [], tin := [.flt .f64, .flt .f64], gin := [], res := .c (.s (.e (.var 0))), post := [], tout := [.bool], gout := [] }
def cl_sameFloat : List (Nat × Sig) := []
theorem run_sameFloat : run ⟨Tryd.prog, glb, cl_sameFloat⟩ [] Tryd.f42 sg_sameFloat (Tryd.f42.body.getD .skip) = tr_sameFloat := by kernel_rfl
theorem om_sameFloat : ΩOK ⟨Tryd.prog, glb, cl_sameFloat⟩ (specsOf Fs_sameFloat) := ΩOK_nil
theorem con_sameFloat : ConOK Tryd.prog glb 42 sg_sameFloat SP_sameFloat := conOK_of om_sameFloat mixed Tryd.func42 (by kernel_rfl) run_sameFloat (fun ins K ht h => sat_sameFloat Tryd.prog ins K ht h)

def sg_sameComplex : Sig := { args := [.s (.e (.var 0)), .s (.e (.var 1))], pre := [], tin := [.cpx .f64, .cpx .f64], gin := [], res := .c (.s (.e (.var 0))), post := [], tout := [.bool], gout := [] }
def cl_sameComplex : List (Nat × Sig) := [(42, sg_sameFloat)]
theorem run_sameComplex : run ⟨Tryd.prog, glb, cl_sameComplex⟩ [] Tryd.f18 sg_sameComplex (Tryd.f18.body.getD .skip) = tr_sameComplex := by kernel_rfl
theorem om_sameComplex : ΩOK ⟨Tryd.prog, glb, cl_sameComplex⟩ Ss_sameComplex := (ΩOK_consS con_sameFloat Tryd.call42 ΩOK_nilS)
theorem con_sameComplex : ConOK Tryd.prog glb 18 sg_sameComplex SP_sameComplex := conOK_of om_sameComplex mixed Tryd.func18 (by kernel_rfl) run_sameComplex (fun ins K ht h => sat_sameComplex Tryd.prog ins K ht h)

def sg_FnExactFilmWide : Sig := { args := [.s (.e (.var 0)), .ag [.e (.var 1), .e (.var 2), .e (.var 3)], .ag [.e (.var 4), .e (.var 5), .e (.var 6)]], pre := [], tin := [.sl, .int .i64, .int .i64, .int .i64, .int .i64, .int .i64, .int .i64, .row .i64 4], gin := [(0, 7, 4)], res := .c (.s (.e (.var 0))), post := [], tout := [.bool], gout := [] }
def cl_FnExactFilmWide : List (Nat × Sig) := [(8, sg_szL), (10, sg_toL), (16, sg_toFrac), (15, sg_sFilmWide), (17, sg_iFilmWide), (18, sg_sameComplex), (12, sg_eqLayerS)]
theorem run_FnExactFilmWide : run ⟨Tryd.prog, glb, cl_FnExactFilmWide⟩ [] Tryd.f4 sg_FnExactFilmWide (Tryd.f4.body.getD .skip) = tr_FnExactFilmWide := by kernel_rfl
theorem om_FnExactFilmWide : ΩOK ⟨Tryd.prog, glb, cl_FnExactFilmWide⟩ Ss_FnExactFilmWide := (ΩOK_consS con_szL Tryd.call8 (ΩOK_consS con_toL Tryd.call10 (ΩOK_consS con_toFrac Tryd.call16 (ΩOK_consS con_sFilmWide Tryd.call15 (ΩOK_consS con_iFilmWide Tryd.call17 (ΩOK_consS con_sameComplex Tryd.call18 (ΩOK_consS con_eqLayerS Tryd.call12 ΩOK_nilS)))))))
theorem con_FnExactFilmWide : ConOK Tryd.prog glb 4 sg_FnExactFilmWide F_FnExactFilmWide.spec := conOK_of om_FnExactFilmWide mixed Tryd.func4 (by kernel_rfl) run_FnExactFilmWide (fun ins K ht h => sat_FnExactFilmWide Tryd.prog ins K ht h.1 h.2)

end Go.Proofs.YtebldmiopbfmgaaDoor

/- The contracts of the functions. -/
import Derived.Test.YtebldmiopbfmgaaDoorChecked
import Derived.Test.YtebldmiopbfmgaaDoorRkAFnExactFilmBack
import Derived.WalkKit
import Derived.Laws.OwnMore
import Derived.Deep.MidRow
namespace Go.Proofs.YtebldmiopbfmgaaDoor
open Go Go.Sx Go.RowKit
set_option maxRecDepth 100000

def glb : List (Nat × List Sc) := [(0, [.e (.int .i64 (0)), .e (.int .i64 (0)), .e (.int .i64 (1))])]
theorem mixed : Tryd.prog.follows .mixedOrders = true := by kernel_rfl

def sg_size : Sig := { args := [.s (.e (.var 0))], pre := [], tin := [.int .i64], gin := [], res := .c (.s (.e (.var 0))), post := [], tout := [.int .i64], gout := [] }
def cl_size : List (Nat × Sig) := []
theorem run_size : run ⟨Tryd.prog, glb, cl_size⟩ [] Tryd.f73 sg_size (Tryd.f73.body.getD .skip) = tr_size := by kernel_rfl
theorem om_size : ΩOK ⟨Tryd.prog, glb, cl_size⟩ (specsOf Fs_size) := ΩOK_nil
theorem con_size : ConOK Tryd.prog glb 73 sg_size F_size.spec := conOK_tree om_size mixed Tryd.func73 (by kernel_rfl) run_size

def sg_within : Sig := { args := [.s (.e (.var 0)), .s (.e (.var 1)), .s (.e (.var 2))], pre := [], tin := [.int .i64, .int .i64, .int .i64], gin := [], res := .c (.s (.e (.var 0))), post := [], tout := [.bool], gout := [] }
def cl_within : List (Nat × Sig) := []
theorem run_within : run ⟨Tryd.prog, glb, cl_within⟩ [] Tryd.f60 sg_within (Tryd.f60.body.getD .skip) = tr_within := by kernel_rfl
theorem om_within : ΩOK ⟨Tryd.prog, glb, cl_within⟩ (specsOf Fs_within) := ΩOK_nil
theorem con_within : ConOK Tryd.prog glb 60 sg_within F_within.spec := conOK_tree om_within mixed Tryd.func60 (by kernel_rfl) run_within
theorem cong_within : ConOK Tryd.prog glb 60 sg_within G_within.spec := (con_within).as as_within

def sg_l6In : Sig := { args := [.s (.e (.var 0)), .s (.e (.var 1)), .s (.e (.var 2))], pre := [], tin := [.int .i64, .int .i64, .int .i64], gin := [], res := .c (.s (.e (.var 0))), post := [], tout := [.bool], gout := [] }
def cl_l6In : List (Nat × Sig) := []
theorem run_l6In : run ⟨Tryd.prog, glb, cl_l6In⟩ [] Tryd.f59 sg_l6In (Tryd.f59.body.getD .skip) = tr_l6In := by kernel_rfl
theorem om_l6In : ΩOK ⟨Tryd.prog, glb, cl_l6In⟩ (specsOf Fs_l6In) := ΩOK_nil
theorem con_l6In : ConOK Tryd.prog glb 59 sg_l6In F_l6In.spec := conOK_tree om_l6In mixed Tryd.func59 (by kernel_rfl) run_l6In
theorem cong_l6In : ConOK Tryd.prog glb 59 sg_l6In G_l6In.spec := (con_l6In).as as_l6In

def sg_l2In : Sig := { args := [.s (.e (.var 0))], pre := [], tin := [.int .i64], gin := [], res := .c (.s (.e (.var 0))), post := [], tout := [.bool], gout := [] }
def cl_l2In : List (Nat × Sig) := [(59, sg_l6In)]
theorem run_l2In : run ⟨Tryd.prog, glb, cl_l2In⟩ [] Tryd.f74 sg_l2In (Tryd.f74.body.getD .skip) = tr_l2In := by kernel_rfl
theorem om_l2In : ΩOK ⟨Tryd.prog, glb, cl_l2In⟩ (specsOf Fs_l2In) := (ΩOK_cons cong_l6In Tryd.call59 ΩOK_nil)
theorem con_l2In : ConOK Tryd.prog glb 74 sg_l2In F_l2In.spec := conOK_tree om_l2In mixed Tryd.func74 (by kernel_rfl) run_l2In
theorem cong_l2In : ConOK Tryd.prog glb 74 sg_l2In G_l2In.spec := (con_l2In).as as_l2In

def sg_divisor : Sig := { args := [.s (.e (.var 0)), .s (.e (.var 1))], pre := [], tin := [.int .i64, .int .i64], gin := [], res := .c (.s (.e (.var 0))), post := [], tout := [.int .i64], gout := [] }
def cl_divisor : List (Nat × Sig) := []
theorem run_divisor : run ⟨Tryd.prog, glb, cl_divisor⟩ [(0, ⟨[(0, .int .i64), (1, .int .i64)], [], none⟩)] Tryd.f72 sg_divisor (Tryd.f72.body.getD .skip) = tr_divisor := by kernel_rfl
theorem om_divisor : ΩOK ⟨Tryd.prog, glb, cl_divisor⟩ (specsOf Fs_divisor) := ΩOK_nil
theorem con_divisor : ConOK Tryd.prog glb 72 sg_divisor F_divisor.spec := conOK_of om_divisor mixed Tryd.func72 (by kernel_rfl) run_divisor (fun ins K ht h => sat_divisor Tryd.prog ins K ht h.1 h.2)

def sg_l2Gcd : Sig := { args := [.s (.e (.var 0)), .s (.e (.var 1))], pre := [], tin := [.int .i64, .int .i64], gin := [], res := .c (.s (.e (.var 0))), post := [], tout := [.int .i64], gout := [] }
def cl_l2Gcd : List (Nat × Sig) := []
theorem run_l2Gcd : run ⟨Tryd.prog, glb, cl_l2Gcd⟩ [(0, ⟨[(0, .int .i64), (1, .int .i64)], [], none⟩)] Tryd.f75 sg_l2Gcd (Tryd.f75.body.getD .skip) = tr_l2Gcd := by kernel_rfl
theorem om_l2Gcd : ΩOK ⟨Tryd.prog, glb, cl_l2Gcd⟩ (specsOf Fs_l2Gcd) := ΩOK_nil
theorem con_l2Gcd : ConOK Tryd.prog glb 75 sg_l2Gcd F_l2Gcd.spec := conOK_of om_l2Gcd mixed Tryd.func75 (by kernel_rfl) run_l2Gcd (fun ins K ht h => sat_l2Gcd Tryd.prog ins K ht h.1 h.2)

def sg_sFracValid : Sig := { args := [.ag [.e (.var 0), .e (.var 1), .e (.var 2)]], pre := [], tin := [.int .i64, .int .i64, .int .i64], gin := [], res := .c (.s (.e (.var 0))), post := [], tout := [.bool], gout := [] }
def cl_sFracValid : List (Nat × Sig) := [(74, sg_l2In), (59, sg_l6In), (75, sg_l2Gcd)]
theorem run_sFracValid : run ⟨Tryd.prog, glb, cl_sFracValid⟩ [] Tryd.f58 sg_sFracValid (Tryd.f58.body.getD .skip) = tr_sFracValid := by kernel_rfl
theorem om_sFracValid : ΩOK ⟨Tryd.prog, glb, cl_sFracValid⟩ (specsOf Fs_sFracValid) := (ΩOK_cons cong_l2In Tryd.call74 (ΩOK_cons cong_l6In Tryd.call59 (ΩOK_cons con_l2Gcd Tryd.call75 ΩOK_nil)))
theorem con_sFracValid : ConOK Tryd.prog glb 58 sg_sFracValid F_sFracValid.spec := conOK_tree om_sFracValid mixed Tryd.func58 (by kernel_rfl) run_sFracValid
theorem cong_sFracValid : ConOK Tryd.prog glb 58 sg_sFracValid G_sFracValid.spec := (con_sFracValid).as as_sFracValid

def sg_iFracValid : Sig := { args := [.ag [.e (.var 0), .e (.var 1), .e (.var 2)]], pre := [], tin := [.int .i64, .int .i64, .int .i64], gin := [], res := .c (.s (.e (.var 0))), post := [], tout := [.bool], gout := [] }
def cl_iFracValid : List (Nat × Sig) := [(60, sg_within), (72, sg_divisor), (73, sg_size)]
theorem run_iFracValid : run ⟨Tryd.prog, glb, cl_iFracValid⟩ [] Tryd.f57 sg_iFracValid (Tryd.f57.body.getD .skip) = tr_iFracValid := by kernel_rfl
theorem om_iFracValid : ΩOK ⟨Tryd.prog, glb, cl_iFracValid⟩ (specsOf Fs_iFracValid) := (ΩOK_cons cong_within Tryd.call60 (ΩOK_cons con_divisor Tryd.call72 (ΩOK_cons con_size Tryd.call73 ΩOK_nil)))
theorem con_iFracValid : ConOK Tryd.prog glb 57 sg_iFracValid F_iFracValid.spec := conOK_tree om_iFracValid mixed Tryd.func57 (by kernel_rfl) run_iFracValid
theorem cong_iFracValid : ConOK Tryd.prog glb 57 sg_iFracValid G_iFracValid.spec := (con_iFracValid).as as_iFracValid

def sg_toFrac : Sig := { args := [.ag [.e (.var 0), .e (.var 1), .e (.var 2)]], pre := [], tin := [.int .i64, .int .i64, .int .i64], gin := [], res := .c (.ag [.e (.var 0), .e (.var 1), .e (.var 2)]), post := [], tout := [.int .i64, .int .i64, .int .i64], gout := [] }
def cl_toFrac : List (Nat × Sig) := []
theorem run_toFrac : run ⟨Tryd.prog, glb, cl_toFrac⟩ [] Tryd.f16 sg_toFrac (Tryd.f16.body.getD .skip) = tr_toFrac := by kernel_rfl
theorem om_toFrac : ΩOK ⟨Tryd.prog, glb, cl_toFrac⟩ (specsOf Fs_toFrac) := ΩOK_nil
theorem con_toFrac : ConOK Tryd.prog glb 16 sg_toFrac F_toFrac.spec := conOK_tree om_toFrac mixed Tryd.func16 (by kernel_rfl) run_toFrac

def sg_eqFrac : Sig := { args := [.ag [.e (.var 0), .e (.var 1), .e (.var 2)], .ag [.e (.var 3), .e (.var 4), .e (.var 5)]], pre := [], tin := [.int .i64, .int .i64, .int .i64, .int .i64, .int .i64, .int .i64], gin := [], res := .c (.s (.e (.var 0))), post := [], tout := [.bool], gout := [] }
def cl_eqFrac : List (Nat × Sig) := []
theorem run_eqFrac : run ⟨Tryd.prog, glb, cl_eqFrac⟩ [] Tryd.f61 sg_eqFrac (Tryd.f61.body.getD .skip) = tr_eqFrac := by kernel_rfl
theorem om_eqFrac : ΩOK ⟨Tryd.prog, glb, cl_eqFrac⟩ (specsOf Fs_eqFrac) := ΩOK_nil
theorem con_eqFrac : ConOK Tryd.prog glb 61 sg_eqFrac F_eqFrac.spec := conOK_tree om_eqFrac mixed Tryd.func61 (by kernel_rfl) run_eqFrac
theorem cong_eqFrac : ConOK Tryd.prog glb 61 sg_eqFrac G_eqFrac.spec := (con_eqFrac).as as_eqFrac

def sg_szL : Sig := { args := [.s (.e (.var 0)), .s (.e (.var 1))], pre := [], tin := [.sl, .int .i64], gin := [], res := .c (.s (.e (.var 0))), post := [], tout := [.int .i64], gout := [] }
def cl_szL : List (Nat × Sig) := []
theorem run_szL : run ⟨Tryd.prog, glb, cl_szL⟩ [] Tryd.f8 sg_szL (Tryd.f8.body.getD .skip) = tr_szL := by kernel_rfl
theorem om_szL : ΩOK ⟨Tryd.prog, glb, cl_szL⟩ (specsOf Fs_szL) := ΩOK_nil
theorem con_szL : ConOK Tryd.prog glb 8 sg_szL F_szL.spec := conOK_tree om_szL mixed Tryd.func8 (by kernel_rfl) run_szL

def sg_toLayer : Sig := { args := [.ag [.e (.var 0), .e (.var 1), .e (.var 2), .e (.var 3)]], pre := [], tin := [.int .i64, .int .i64, .int .i64, .int .i64], gin := [], res := .c (.ag [.e (.var 0), .e (.var 1), .e (.var 2), .e (.var 3)]), post := [], tout := [.int .i64, .int .i64, .int .i64, .int .i64], gout := [] }
def cl_toLayer : List (Nat × Sig) := [(16, sg_toFrac)]
theorem run_toLayer : run ⟨Tryd.prog, glb, cl_toLayer⟩ [] Tryd.f30 sg_toLayer (Tryd.f30.body.getD .skip) = tr_toLayer := by kernel_rfl
theorem om_toLayer : ΩOK ⟨Tryd.prog, glb, cl_toLayer⟩ (specsOf Fs_toLayer) := (ΩOK_cons con_toFrac Tryd.call16 ΩOK_nil)
theorem con_toLayer : ConOK Tryd.prog glb 30 sg_toLayer F_toLayer.spec := conOK_tree om_toLayer mixed Tryd.func30 (by kernel_rfl) run_toLayer

def sg_toL : Sig := { args := [.s (.e (.var 0))], pre := [], tin := [.sl, .row .i64 4], gin := [(0, 1, 4)], res := .c (.s (.e (.var 0))), post := [], tout := [.sl, .row .i64 4], gout := [(0, 1, 4)] }
theorem run0_toFrac : run ⟨Tryd.prog, [], []⟩ [] Tryd.f16 sg_toFrac (Tryd.f16.body.getD .skip) = tr_toFrac := by kernel_rfl
theorem con0_toFrac : ConOK Tryd.prog [] 16 sg_toFrac F_toFrac.spec := conOK_tree ΩOK_nil mixed Tryd.func16 (by kernel_rfl) run0_toFrac
theorem run0_toLayer : run ⟨Tryd.prog, [], [(16, sg_toFrac)]⟩ [] Tryd.f30 sgFour (Tryd.f30.body.getD .skip) = tr_toLayer := by kernel_rfl
theorem con0_toLayer : ConOK Tryd.prog [] 30 sgFour F_toLayer.spec := conOK_tree (Fs := Fs_toLayer) (ΩOK_cons con0_toFrac Tryd.call16 ΩOK_nil) mixed Tryd.func30 (by kernel_rfl) run0_toLayer
theorem toL_elem (x0 x1 x2 x3 : Int) (h0 : IntKind.i64.wrap x0 = x0) (h1 : IntKind.i64.wrap x1 = x1) (h2 : IntKind.i64.wrap x2 = x2) (h3 : IntKind.i64.wrap x3 = x3) (w : World) : Calls Tryd.prog 30 #[.agg #[.int .i64 x0, .int .i64 x1, .int .i64 x2, .int .i64 x3]] w fun e w' => e = .returned (.agg #[.int .i64 x0, .int .i64 x1, .int .i64 x2, .int .i64 x3]) ∧ RowKit.Below w.heap.size w w' :=
  calls_four con0_toLayer (fun _ => okT_free (by intro F hF ins; simp only [Fs_toLayer, List.mem_singleton] at hF; rw [hF]; exact okT_free (fun F hF => by cases hF) _ _ (by kernel_rfl)) _ _ (by kernel_rfl)) (by kernel_rfl) x0 x1 x2 x3 h0 h1 h2 h3 w
theorem toL_make (w : World) (len : Nat) (hl : len ≤ 1048576) : (Instr.makeSlice 24 (.int .i64 len) (.int .i64 len)).run Tryd.prog w = .ok (.slice (some ⟨w.heap.size, 0, none⟩) len len) (w.alloc (.cells (madeCells #[.int .i64 0, .int .i64 0, .int .i64 0, .int .i64 0] (len * 4)) 49)) := by
  obtain ⟨i, hi⟩ := Option.isSome_iff_exists.1 (by kernel_rfl : (Tryd.prog.info? 49).isSome = true)
  have hz : i.zero = some (.agg #[.int .i64 0, .int .i64 0, .int .i64 0, .int .i64 0]) := by
    have h : (Tryd.prog.info? 49).bind (·.zero) = some (.agg #[.int .i64 0, .int .i64 0, .int .i64 0, .int .i64 0]) := by kernel_rfl
    rw [hi] at h; exact h
  have hs : i.size = 4 := by
    have h : (Tryd.prog.info? 49).map (·.size) = some 4 := by kernel_rfl
    rw [hi] at h; exact Option.some.inj h
  have hb : i.bytes = 32 := by
    have h : (Tryd.prog.info? 49).map (·.bytes) = some 32 := by kernel_rfl
    rw [hi] at h; exact Option.some.inj h
  have h := run_makeSlice w 24 49 i (.agg #[.int .i64 0, .int .i64 0, .int .i64 0, .int .i64 0]) Tryd.underlying24 hi hz .i64 .i64 (len : Int) (len : Int) (by omega) (Int.le_refl _) (by rw [hs, Int.toNat_natCast]; omega) (by rw [hb]; omega) (by omega)
  rw [hs] at h
  simp only [Int.toNat_natCast] at h
  exact h
set_option maxHeartbeats 800000 in
set_option maxRecDepth 1000000 in
theorem toL_walk (b off len cap : Nat) (zs : Nat → Int) (w : World) (hl : len ≤ 1048576) (hb : b < w.heap.size) (h64 : ∀ j, j < 4 * len → IntKind.i64.wrap (zs j) = zs j)
    (hc : ∀ j, j < 4 * len → w.cell? ⟨b, off + j, none⟩ = some (.int .i64 (zs j))) :
    Calls Tryd.prog 10 #[.slice (some ⟨b, off, none⟩) len cap] w fun e w' =>
      e = .returned (.slice (some ⟨w.heap.size, 0, none⟩) len len) ∧ RowKit.Below w.heap.size w w' ∧ w.heap.size < w'.heap.size ∧ ∀ j, j < 4 * len → w'.cell? ⟨w.heap.size, j, none⟩ = some (.int .i64 (zs j)) := by
  have hmk := toL_make w len hl
  go_enter Tryd.func10, Tryd.ntmps10
  go_wp2
  go_loopw [4] (fun i wr => ∃ k : Nat, k ≤ len ∧ i = .int .i64 k ∧ RowKit.Below w.heap.size w wr ∧ w.heap.size < wr.heap.size ∧ wr.there w.heap.size 0 (4 * len) ∧ ∀ j, j < 4 * k → wr.cell? ⟨w.heap.size, j, none⟩ = some (.int .i64 (zs j)))
    (fun i _ => len - (match i with | .int _ n => n.toNat | _ => 0))
  case atStart =>
    refine ⟨0, Nat.zero_le _, rfl, (RowKit.Below.refl _ _).alloc (Nat.le_refl _) _, by show _ < (w.heap.push _).size; rw [Array.size_push]; omega, fun j hj => ⟨?_, ?_⟩, fun j hj => by omega⟩
    · rw [Nat.zero_add, World.cell?_alloc_at _ _ _ _ rfl, Array.getElem?_eq_getElem (by rw [size_madeCells]; omega)]; rfl
    · exact World.frozen?_alloc_at _ _ _ _ rfl
  case round =>
    obtain ⟨k, hk, rfl, hB, hs, hth, heq⟩ := hrel
    by_cases hlt : k < len
    · have c0 : wr.cell? ⟨b, off + k * 4, none⟩ = some (.int .i64 (zs (4 * k))) := by rw [hB.cell hb, show off + k * 4 = off + 4 * k by omega]; exact hc _ (by omega)
      have c1 : wr.cell? ⟨b, off + k * 4 + 1, none⟩ = some (.int .i64 (zs (4 * k + 1))) := by rw [hB.cell hb, show off + k * 4 + 1 = off + (4 * k + 1) by omega]; exact hc _ (by omega)
      have c2 : wr.cell? ⟨b, off + k * 4 + 2, none⟩ = some (.int .i64 (zs (4 * k + 2))) := by rw [hB.cell hb, show off + k * 4 + 2 = off + (4 * k + 2) by omega]; exact hc _ (by omega)
      have c3 : wr.cell? ⟨b, off + k * 4 + 3, none⟩ = some (.int .i64 (zs (4 * k + 3))) := by rw [hB.cell hb, show off + k * 4 + 3 = off + (4 * k + 3) by omega]; exact hc _ (by omega)
      go_wp2_with fail
      refine (toL_elem _ _ _ _ (h64 _ (by omega)) (h64 _ (by omega)) (h64 _ (by omega)) (h64 _ (by omega)) _).mono ?_
      rintro e w1 ⟨rfl, hB1⟩
      have hth1 : w1.there w.heap.size 0 (4 * len) := fun j hj => by
        rw [hB1.cell hs, hB1.frozen hs]
        exact hth j hj
      have hth2 : w1.there w.heap.size (k * 4) 4 := fun j hj => by
        have := hth1 (k * 4 + j) (by omega)
        rwa [Nat.zero_add] at this
      have hone := all_oneCell_toArray (cs := [.int .i64 (zs (4 * k)), .int .i64 (zs (4 * k + 1)), .int .i64 (zs (4 * k + 2)), .int .i64 (zs (4 * k + 3))]) (by intro v hv; simp only [List.mem_cons, List.not_mem_nil, or_false] at hv; rcases hv with rfl | rfl | rfl | rfl <;> rfl)
      go_wp2_with (first | (refine wpList_store_mid rfl 49 (.tmp 21) (.tmp 20) rfl w.heap.size (k * 4) _ rfl rfl hth2 (by kernel_rfl) hone ?_) | fail)
      go_roundw
      case rel =>
        refine ⟨k + 1, by omega, by simp, ?_, ?_, ?_, ?_⟩
        · exact (((hB.trans (hB1.mono (by omega))).setCell (p := ⟨w.heap.size, k * 4, none⟩) (Nat.le_refl _) _).setCell (p := ⟨w.heap.size, k * 4 + 1, none⟩) (Nat.le_refl _) _).setCell (p := ⟨w.heap.size, k * 4 + 2, none⟩) (Nat.le_refl _) _ |>.setCell (p := ⟨w.heap.size, k * 4 + 3, none⟩) (Nat.le_refl _) _
        · have := hB1.size; simp [World.setCells, World.setCell]; omega
        · exact World.there_setCells hth1 _ _ _
        · intro j hj
          by_cases h : j < 4 * k
          · rw [World.cell?_setCells_out _ _ _ _ _ (fun _ _ => Or.inl (by show j < k * 4; omega)), hB1.cell hs]
            exact heq j h
          · have := World.rangeAt_setCells_same w1 w.heap.size (k * 4) [.int .i64 (zs (4 * k)), .int .i64 (zs (4 * k + 1)), .int .i64 (zs (4 * k + 2)), .int .i64 (zs (4 * k + 3))] hth2 (j - k * 4)
            rw [show k * 4 + (j - k * 4) = j by omega] at this
            obtain ⟨i, hi, rfl⟩ : ∃ i, i < 4 ∧ j = 4 * k + i := ⟨j - 4 * k, by omega, by omega⟩
            rw [show 4 * k + i - k * 4 = i by omega] at this
            match i, hi with
            | 0, _ => exact this _ rfl
            | 1, _ => exact this _ rfl
            | 2, _ => exact this _ rfl
            | 3, _ => exact this _ rfl
      case measure => simp; omega
    · have hk2 : k = len := by omega
      subst hk2
      go_wp2
      go_ret
      exact ⟨rfl, hB, hs, heq⟩
set_option maxHeartbeats 800000 in
set_option maxRecDepth 1000000 in
theorem toL_nil (cap : Nat) (w : World) : Calls Tryd.prog 10 #[.slice none 0 cap] w fun e w' => e = .returned (.slice (some ⟨w.heap.size, 0, none⟩) 0 0) ∧ RowKit.Below w.heap.size w w' ∧ w.heap.size < w'.heap.size := by
  have hmk : (Instr.makeSlice 24 (.int .i64 0) (.int .i64 0)).run Tryd.prog w = .ok (.slice (some ⟨w.heap.size, 0, none⟩) 0 0) (w.alloc (.cells (madeCells #[.int .i64 0, .int .i64 0, .int .i64 0, .int .i64 0] (0 * 4)) 49)) := toL_make w 0 (by omega)
  go_enter Tryd.func10, Tryd.ntmps10
  go_wp2
  refine wp_loop_rounds 1 ?_
  rw [rounds_succ]
  go_wp2
  go_ret
  exact ⟨rfl, (RowKit.Below.refl _ _).alloc (Nat.le_refl _) _, by show _ < (w.heap.push _).size; rw [Array.size_push]; omega⟩
theorem con_toL : ConOK Tryd.prog glb 10 sg_toL SP_toL := conOK_copy toL_walk toL_nil


def sg_eqLayer : Sig := { args := [.ag [.e (.var 0), .e (.var 1), .e (.var 2), .e (.var 3)], .ag [.e (.var 4), .e (.var 5), .e (.var 6), .e (.var 7)]], pre := [], tin := [.int .i64, .int .i64, .int .i64, .int .i64, .int .i64, .int .i64, .int .i64, .int .i64], gin := [], res := .c (.s (.e (.var 0))), post := [], tout := [.bool], gout := [] }
def cl_eqLayer : List (Nat × Sig) := [(61, sg_eqFrac)]
theorem run_eqLayer : run ⟨Tryd.prog, glb, cl_eqLayer⟩ [] Tryd.f33 sg_eqLayer (Tryd.f33.body.getD .skip) = tr_eqLayer := by kernel_rfl
theorem om_eqLayer : ΩOK ⟨Tryd.prog, glb, cl_eqLayer⟩ (specsOf Fs_eqLayer) := (ΩOK_cons cong_eqFrac Tryd.call61 ΩOK_nil)
theorem con_eqLayer : ConOK Tryd.prog glb 33 sg_eqLayer F_eqLayer.spec := conOK_tree om_eqLayer mixed Tryd.func33 (by kernel_rfl) run_eqLayer
theorem cong_eqLayer : ConOK Tryd.prog glb 33 sg_eqLayer G_eqLayer.spec := (con_eqLayer).as as_eqLayer

def sg_eqLayerS : Sig := { args := [.s (.e (.var 0)), .s (.e (.var 1))], pre := [], tin := [.sl, .sl, .row .i64 4, .row .i64 4], gin := [(0, 2, 4), (1, 3, 4)], res := .c (.s (.e (.var 0))), post := [], tout := [.bool], gout := [] }
def cl_eqLayerS : List (Nat × Sig) := [(33, sg_eqLayer)]
theorem run_eqLayerS : run ⟨Tryd.prog, glb, cl_eqLayerS⟩ [(0, ⟨[(5, .int .i64)], [], none⟩)] Tryd.f12 sg_eqLayerS (Tryd.f12.body.getD .skip) = tr_eqLayerS := by kernel_rfl
theorem om_eqLayerS : ΩOK ⟨Tryd.prog, glb, cl_eqLayerS⟩ (specsOf Fs_eqLayerS) := (ΩOK_cons cong_eqLayer Tryd.call33 ΩOK_nil)
theorem con_eqLayerS : ConOK Tryd.prog glb 12 sg_eqLayerS F_eqLayerS.spec := conOK_of om_eqLayerS mixed Tryd.func12 (by kernel_rfl) run_eqLayerS (fun ins K ht h => sat_eqLayerS Tryd.prog ins K ht h.1 h.2)

def sg_indexOk : Sig := { args := [.ag [.e (.var 0), .e (.var 1), .e (.var 2)]], pre := [], tin := [.int .i64, .int .i64, .int .i64], gin := [], res := .c (.s (.e (.var 0))), post := [], tout := [.bool], gout := [] }
def cl_indexOk : List (Nat × Sig) := [(57, sg_iFracValid)]
theorem run_indexOk : run ⟨Tryd.prog, glb, cl_indexOk⟩ [] Tryd.f39 sg_indexOk (Tryd.f39.body.getD .skip) = tr_indexOk := by kernel_rfl
theorem om_indexOk : ΩOK ⟨Tryd.prog, glb, cl_indexOk⟩ (specsOf Fs_indexOk) := (ΩOK_cons cong_iFracValid Tryd.call57 ΩOK_nil)
theorem con_indexOk : ConOK Tryd.prog glb 39 sg_indexOk F_indexOk.spec := conOK_tree om_indexOk mixed Tryd.func39 (by kernel_rfl) run_indexOk
theorem cong_indexOk : ConOK Tryd.prog glb 39 sg_indexOk G_indexOk.spec := (con_indexOk).as as_indexOk

def sg_iFilmValid : Sig := { args := [.s (.e (.var 0))], pre := [], tin := [.sl, .row .i64 4], gin := [(0, 1, 4)], res := .c (.s (.e (.var 0))), post := [], tout := [.bool], gout := [] }
def cl_iFilmValid : List (Nat × Sig) := [(39, sg_indexOk), (60, sg_within)]
theorem run_iFilmValid : run ⟨Tryd.prog, glb, cl_iFilmValid⟩ [(0, ⟨[(7, .int .i64)], [], none⟩)] Tryd.f31 sg_iFilmValid (Tryd.f31.body.getD .skip) = tr_iFilmValid := by kernel_rfl
theorem om_iFilmValid : ΩOK ⟨Tryd.prog, glb, cl_iFilmValid⟩ (specsOf Fs_iFilmValid) := (ΩOK_cons cong_indexOk Tryd.call39 (ΩOK_cons cong_within Tryd.call60 ΩOK_nil))
theorem con_iFilmValid : ConOK Tryd.prog glb 31 sg_iFilmValid F_iFilmValid.spec := conOK_of om_iFilmValid mixed Tryd.func31 (by kernel_rfl) run_iFilmValid (fun ins K ht h => sat_iFilmValid Tryd.prog ins K ht h.1 h.2)

def sg_sFilmValid : Sig := { args := [.s (.e (.var 0))], pre := [], tin := [.sl, .row .i64 4], gin := [(0, 1, 4)], res := .c (.s (.e (.var 0))), post := [], tout := [.bool], gout := [] }
def cl_sFilmValid : List (Nat × Sig) := [(58, sg_sFracValid), (59, sg_l6In)]
theorem run_sFilmValid : run ⟨Tryd.prog, glb, cl_sFilmValid⟩ [(0, ⟨[(3, .int .i64)], [], none⟩)] Tryd.f29 sg_sFilmValid (Tryd.f29.body.getD .skip) = tr_sFilmValid := by kernel_rfl
theorem om_sFilmValid : ΩOK ⟨Tryd.prog, glb, cl_sFilmValid⟩ (specsOf Fs_sFilmValid) := (ΩOK_cons cong_sFracValid Tryd.call58 (ΩOK_cons cong_l6In Tryd.call59 ΩOK_nil))
theorem con_sFilmValid : ConOK Tryd.prog glb 29 sg_sFilmValid F_sFilmValid.spec := conOK_of om_sFilmValid mixed Tryd.func29 (by kernel_rfl) run_sFilmValid (fun ins K ht h => sat_sFilmValid Tryd.prog ins K ht h.1 h.2)

def sg_sFilmBack : Sig := { args := [.s (.e (.var 0))], pre := [], tin := [.sl, .row .i64 4], gin := [(0, 1, 4)], res := .tu [.s (.e (.var 0)), .s (.e (.var 1))], post := [], tout := [.sl, .bool, .row .i64 4], gout := [(0, 2, 4)] }
def cl_sFilmBack : List (Nat × Sig) := [(29, sg_sFilmValid)]
theorem run_sFilmBack : run ⟨Tryd.prog, glb, cl_sFilmBack⟩ [(0, ⟨[(4, .sl), (5, .int .i64)], [], some (0, .row .i64 4, 4, 49)⟩)] Tryd.f9 sg_sFilmBack (Tryd.f9.body.getD .skip) = tr_sFilmBack := by kernel_rfl
theorem om_sFilmBack : ΩOK ⟨Tryd.prog, glb, cl_sFilmBack⟩ (specsOf Fs_sFilmBack) := (ΩOK_cons con_sFilmValid Tryd.call29 ΩOK_nil)
theorem con_sFilmBack : ConOK Tryd.prog glb 9 sg_sFilmBack SP_sFilmBack := conOK_of om_sFilmBack mixed Tryd.func9 (by kernel_rfl) run_sFilmBack (fun ins K ht h => sat_sFilmBack Tryd.prog ins K ht h)

def sg_revLo : Sig := { args := [.s (.e (.var 0))], pre := [], tin := [.sl, .row .i64 4], gin := [(0, 1, 4)], res := .c (.s (.e (.var 0))), post := [], tout := [.sl, .row .i64 4], gout := [(0, 1, 4)], gown := some (0, 1, 4, 49) }
def cl_revLo : List (Nat × Sig) := []
theorem run_revLo : run ⟨Tryd.prog, glb, cl_revLo⟩ [(0, ⟨[(3, .sl), (4, .int .i64)], [], some (0, .row .i64 4, 4, 49)⟩)] Tryd.f32 sg_revLo (Tryd.f32.body.getD .skip) = tr_revLo := by kernel_rfl
theorem om_revLo : ΩOK ⟨Tryd.prog, glb, cl_revLo⟩ (specsOf Fs_revLo) := ΩOK_nil
theorem con_revLo : ConOK Tryd.prog glb 32 sg_revLo SP_revLo := conOK_of om_revLo mixed Tryd.func32 (by kernel_rfl) run_revLo (fun ins K ht h => sat_revLo Tryd.prog ins K ht h)

def sg_iFilmBackO : Sig := { args := [.s (.e (.var 0))], pre := [], tin := [.sl, .row .i64 4], gin := [(0, 1, 4)], res := .tu [.s (.e (.var 0)), .s (.e (.var 1))], post := [], tout := [.sl, .bool, .row .i64 4], gout := [(0, 2, 4)], gown := some (0, 2, 4, 49) }
def cl_iFilmBackO : List (Nat × Sig) := [(31, sg_iFilmValid), (32, sg_revLo)]
theorem run_iFilmBackO : run ⟨Tryd.prog, glb, cl_iFilmBackO⟩ [] Tryd.f11 sg_iFilmBackO (Tryd.f11.body.getD .skip) = tr_iFilmBackO := by kernel_rfl
theorem om_iFilmBackO : ΩOK ⟨Tryd.prog, glb, cl_iFilmBackO⟩ Ss_iFilmBackO := (ΩOK_consS con_iFilmValid Tryd.call31 (ΩOK_consS con_revLo Tryd.call32 ΩOK_nilS))
theorem con_iFilmBackO : ConOK Tryd.prog glb 11 sg_iFilmBackO SP_iFilmBackO := conOK_of om_iFilmBackO mixed Tryd.func11 (by kernel_rfl) run_iFilmBackO (fun ins K ht h => sat_iFilmBackO Tryd.prog ins K ht h)

def sg_heldL : Sig := { args := [.s (.e (.var 0)), .s (.e (.var 1))], pre := [], tin := [.sl, .int .i64, .row .i64 4], gin := [(0, 2, 4)], res := .c (.s (.e (.var 0))), post := [], tout := [.int .i64], gout := [] }
def cl_heldL : List (Nat × Sig) := []
theorem run_heldL : run ⟨Tryd.prog, glb, cl_heldL⟩ [(0, ⟨[(5, .int .i64), (1, .int .i64)], [], none⟩)] Tryd.f14 sg_heldL (Tryd.f14.body.getD .skip) = tr_heldL := by kernel_rfl
theorem om_heldL : ΩOK ⟨Tryd.prog, glb, cl_heldL⟩ (specsOf Fs_heldL) := ΩOK_nil
theorem con_heldL : ConOK Tryd.prog glb 14 sg_heldL F_heldL.spec := conOK_of om_heldL mixed Tryd.func14 (by kernel_rfl) run_heldL (fun ins K ht h => sat_heldL Tryd.prog ins K ht h.1 h.2)

def sg_markL : Sig := { args := [.s (.e (.var 0)), .s (.e (.var 1))], pre := [], tin := [.sl, .int .i64], gin := [], res := .c (.s (.e (.var 0))), post := [], tout := [.int .i64], gout := [] }
set_option maxHeartbeats 1600000 in
set_option maxRecDepth 1000000 in
theorem mark_walk (g len cap : Nat) (w : World) (hl : len ≤ 1048576) (hg : w.there g 0 (4 * len)) :
    Calls Tryd.prog 13 #[.slice (some ⟨g, 0, none⟩) len cap, .int .i64 1] w fun e w' =>
      e = .returned (.int .i64 (1 + 4 * (len : Int))) ∧ w'.os = w.os ∧ w'.tape = w.tape ∧ w'.output = w.output ∧ w'.heap.size = w.heap.size ∧ (∀ k, k ≠ g → w'.heap[k]? = w.heap[k]?) ∧ (w'.there g 0 (4 * len)) ∧ ∀ j, j < 4 * len → w'.cell? ⟨g, j, none⟩ = some (.int .i64 (1 + (j : Int))) := by
  go_enter Tryd.func13, Tryd.ntmps13
  go_wp2
  go_loopw [5, 1] (fun i q wr => ∃ k : Nat, k ≤ len ∧ i = .int .i64 k ∧ q = .int .i64 (1 + 4 * (k : Int)) ∧ wr.os = w.os ∧ wr.tape = w.tape ∧ wr.output = w.output ∧ wr.heap.size = w.heap.size ∧ (∀ k, k ≠ g → wr.heap[k]? = w.heap[k]?) ∧ wr.there g 0 (4 * len) ∧ ∀ j, j < 4 * k → wr.cell? ⟨g, j, none⟩ = some (.int .i64 (1 + (j : Int))))
    (fun i _ _ => len - (match i with | .int _ n => n.toNat | _ => 0))
  case atStart =>
    exact ⟨0, Nat.zero_le _, rfl, rfl, rfl, rfl, rfl, rfl, fun _ _ => rfl, hg, fun j hj => by omega⟩
  case round =>
    obtain ⟨k, hk, rfl, rfl, h1, h2, h3, h4, h5, hth, heq⟩ := hrel
    by_cases hlt : k < len
    · have cf : ∀ i, i < 4 → ∃ v, wr.cell? ⟨g, k * 4 + i, none⟩ = some v ∧ wr.frozen? ⟨g, k * 4 + i, none⟩ = false := fun i hi => by
        obtain ⟨p1, p2⟩ := hth (k * 4 + i) (by omega)
        rw [Nat.zero_add] at p1 p2
        obtain ⟨v, hv⟩ := Option.isSome_iff_exists.1 p1
        exact ⟨v, hv, p2⟩
      obtain ⟨v0, c0, f0⟩ := cf 0 (by omega)
      obtain ⟨v1, c1, f1⟩ := cf 1 (by omega)
      obtain ⟨v2, c2, f2⟩ := cf 2 (by omega)
      obtain ⟨v3, c3, f3⟩ := cf 3 (by omega)
      rw [Nat.add_zero] at c0 f0
      go_wp2_with fail
      refine ⟨⟨k + 1, by omega, rfl, ?_, h1, h2, h3, ?_, ?_, ?_, ?_⟩, ?_⟩
      · congr 1 <;> omega
      · simp only [World.size_setCell]; exact h4
      · intro i hi
        simp only [World.setCell, Array.getElem?_modify, if_neg (Ne.symm hi)]
        exact h5 i hi
      · exact World.there_setCells hth g (k * 4) [.int .i64 (1 + 4 * (k : Int)), .int .i64 (1 + 4 * (k : Int) + 1), .int .i64 (1 + 4 * (k : Int) + 1 + 1), .int .i64 (1 + 4 * (k : Int) + 1 + 1 + 1)]
      · intro j hj
        have hth4 : wr.there g (k * 4) 4 := fun i hi => by
          have := hth (k * 4 + i) (by omega)
          rwa [Nat.zero_add] at this
        show (wr.setCells g (k * 4) [.int .i64 (1 + 4 * (k : Int)), .int .i64 (1 + 4 * (k : Int) + 1), .int .i64 (1 + 4 * (k : Int) + 1 + 1), .int .i64 (1 + 4 * (k : Int) + 1 + 1 + 1)]).cell? _ = _
        by_cases h : j < 4 * k
        · rw [World.cell?_setCells_out _ _ _ _ _ (fun _ _ => Or.inl (by show j < k * 4; omega))]
          exact heq j h
        · have := World.rangeAt_setCells_same wr g (k * 4) [.int .i64 (1 + 4 * (k : Int)), .int .i64 (1 + 4 * (k : Int) + 1), .int .i64 (1 + 4 * (k : Int) + 1 + 1), .int .i64 (1 + 4 * (k : Int) + 1 + 1 + 1)] hth4 (j - k * 4)
          rw [show k * 4 + (j - k * 4) = j by omega] at this
          obtain ⟨i, hi, rfl⟩ : ∃ i, i < 4 ∧ j = 4 * k + i := ⟨j - 4 * k, by omega, by omega⟩
          rw [show 4 * k + i - k * 4 = i by omega] at this
          match i, hi with
          | 0, _ => exact (this _ rfl).trans (by congr 2 <;> omega)
          | 1, _ => exact (this _ rfl).trans (by congr 2 <;> omega)
          | 2, _ => exact (this _ rfl).trans (by congr 2 <;> omega)
          | 3, _ => exact (this _ rfl).trans (by congr 2 <;> omega)
      · simp; omega
    · obtain rfl : k = len := by omega
      go_wp2
      go_ret
      exact ⟨rfl, h1, h2, h3, h4, h5, hth, heq⟩
set_option maxHeartbeats 800000 in
set_option maxRecDepth 1000000 in
theorem mark_zero (a : Option Addr) (cap : Nat) (w : World) : Calls Tryd.prog 13 #[.slice a 0 cap, .int .i64 1] w fun e w' => e = .returned (.int .i64 1) ∧ w' = w := by
  go_enter Tryd.func13, Tryd.ntmps13
  go_wp2
  refine wp_loop_rounds 1 ?_
  rw [rounds_succ]
  go_wp2
  go_ret
  exact ⟨rfl, rfl⟩
def markV (m : Nat) : Value := .agg (Array.ofFn (n := 4 * m) fun i => .int .i64 (1 + (i.val : Int)))
theorem markV_get {m j : Nat} (h : j < 4 * m) : (markV m).cells.getD j undef = .int .i64 (1 + (j : Int)) := by
  simp [markV, Value.cells, h]
theorem markV_size (m : Nat) : (markV m).cells.size = m * 4 := by simp [markV, Value.cells]; omega
theorem markV_ty {m : Nat} (hm : m ≤ 1048576) : HasTy (.row .i64 4) (markV m) := by
  refine ⟨_, rfl, ?_, fun x hx => ?_⟩
  · simp; omega
  · obtain ⟨i, hi⟩ := Array.mem_ofFn.1 hx
    have hi4 := i.isLt
    exact ⟨_, hi.symm, wrap_in (by omega)⟩
/-- Marking, told of rows. -/
theorem mark_use {x R : Value} {a : Option Addr} {m cap : Nat} (hx : x = .slice a m cap) {w : World} (hR : RowOk w x R 4) (hT : HasTy (.row .i64 4) R) (hsz : R.cells.size = m * 4) (hm : m ≤ 1048576)
    (hth : m = 0 ∨ ∃ g, a = some ⟨g, 0, none⟩ ∧ w.there g 0 (4 * m)) :
    Calls Tryd.prog 13 #[x, .int .i64 1] w fun e w' => e = .returned (.int .i64 (1 + 4 * (m : Int))) ∧ w'.os = w.os ∧ w'.tape = w.tape ∧ w'.output = w.output ∧ w'.heap.size = w.heap.size ∧ (∀ k, ¬ BlkOf x R k → w'.heap[k]? = w.heap[k]?) ∧
      ∃ R', RowOk w' x R' 4 ∧ HasTy (.row .i64 4) R' ∧ R'.cells.size = m * 4 ∧ (∀ k, BlkOf x R' k → BlkOf x R k) ∧ ∀ k, k < m → ∀ j, j < 4 → rq R' k j = 1 + 4 * k + j := by
  subst hx
  by_cases h0 : m = 0
  · subst h0
    refine (mark_zero a cap w).mono ?_
    rintro e w' ⟨rfl, rfl⟩
    exact ⟨rfl, rfl, rfl, rfl, rfl, fun _ _ => rfl, R, hR, hT, hsz, fun _ h => h, fun k hk => by omega⟩
  · obtain ⟨g, rfl, hg⟩ := hth.resolve_left h0
    refine (mark_walk g m cap w hm hg).mono ?_
    rintro e w' ⟨rfl, h1, h2, h3, h4, h5, h6, h7⟩
    have hb : BlkOf (.slice (some ⟨g, 0, none⟩) m cap) R g := .inl ⟨_, _, _, rfl, rfl⟩
    have hlt := hR.block hb
    have nf := row_noFat (markV_ty hm)
    refine ⟨rfl, h1, h2, h3, h4, fun k hk => h5 k fun e => hk (e ▸ hb), markV m, ?_, markV_ty hm, markV_size m, fun k hk => ?_, fun k hk j hj => ?_⟩
    · refine RowOk.plain nf (.inr ⟨⟨g, 0, none⟩, m, cap, rfl, rfl, ?_, by rw [h4]; exact hlt, fun j hj => ?_⟩)
      · have := markV_size m
        exact this.symm
      · have hj' : j < 4 * m := by
          have := markV_size m
          have e : (markV m).cells.size = (Array.ofFn (n := 4 * m) fun i => (Value.int .i64 (1 + (i.val : Int)))).size := rfl
          omega
        rw [Nat.zero_add, h7 j hj']
        simp
    · obtain ⟨p, l, cc, e, rfl⟩ := BlkOf.plain nf hk
      cases e
      exact hb
    · unfold rq
      rw [markV_get (by omega), toI_int]
      omega
/-- A slice with its row, in blocks from lo on, below hi. -/
def Lay (w : World) (lo hi : Nat) (x c : Value) : Prop := RowOk w x c 4 ∧ ∀ k, BlkOf x c k → lo ≤ k ∧ k < hi
theorem Lay.keep {w w' : World} {lo hi : Nat} {x c : Value} (h : Lay w lo hi x c) (hs : w.heap.size ≤ w'.heap.size) (hk : ∀ k, lo ≤ k → k < hi → w'.heap[k]? = w.heap[k]?) : Lay w' lo hi x c :=
  ⟨h.1.keep hs fun k hb => hk k (h.2 k hb).1 (h.2 k hb).2, h.2⟩
theorem Lay.below {w w' : World} {lo hi B : Nat} {x c : Value} (h : Lay w lo hi x c) (hb : Below B w w') (hB : hi ≤ B) : Lay w' lo hi x c := h.keep hb.size fun k _ h2 => hb.block k (by omega)
theorem glb_keep {W w : World} (hG : GlbOk glb W) (hS : ∀ g l, find glb g = some l → g < W.heap.size) (hb : Below W.heap.size W w) : GlbOk glb w := fun g l hg =>
  ⟨fun j s hs ρ env => (hb.cell (p := ⟨g, j, none⟩) (hS g l hg)).trans ((hG g l hg).1 j s hs ρ env), fun ht => by
    obtain ⟨arr, t, fr, e1, e2⟩ := (hG g l hg).2 ht
    exact ⟨arr, t, fr, (hb.block g (hS g l hg)).trans e1, e2⟩⟩
theorem use_con {f : Nat} {sig : Sig} {sp : Go.Sx.Spec} (hc : ConOK Tryd.prog glb f sig sp) (h1 : sig.pre = []) (h2 : sig.post = []) {W w : World} (hG : GlbOk glb W) (hS : ∀ g l, find glb g = some l → g < W.heap.size) (hb : Below W.heap.size W w) {ins : List Value} {K : List Value → Prop}
    (ht : TypedL sig.tin ins) (hr : ∀ x c n, (x, c, n) ∈ sig.gin → RowOk w (ins.getD x undef) (ins.getD c undef) n) (hs : sp ins K) :
    Calls Tryd.prog f (sig.args.map (CV.val (at0 []) ins)).toArray w fun e w' => ∃ outs v, e = .returned v ∧ Left' sig [] K w outs [] v w' := by
  have g : Given glb sig [] ins w :=
    { glob := glb_keep hG hS hb
      globbs := fun g l hg => ⟨Nat.lt_of_lt_of_le (hS g l hg) hb.size, by simp⟩
      len := by rw [h1]; rfl
      nodup := List.nodup_nil
      typed := ht
      blk := fun k b hb => by rw [h1] at hb; simp at hb
      rows := fun x c n hm => ⟨hr x c n hm, fun k hk => by simp at hk⟩ }
  refine (hc w [] ins K g hs).mono ?_
  rintro e w' ⟨outs, bs', v, rfl, L⟩
  have hbs : bs' = [] := List.eq_nil_of_length_eq_zero (by rw [L.len, h2]; rfl)
  subst hbs
  exact ⟨outs, v, rfl, L⟩
theorem left_below {sig : Sig} {K : List Value → Prop} {w w' : World} {outs : List Value} {v : Value} (L : Left' sig [] K w outs [] v w') : Below w.heap.size w w' := ⟨L.os, L.tape, L.output, L.size, fun k hk => L.frame k hk (by simp)⟩
section
variable {W w : World} (hG : GlbOk glb W) (hS : ∀ g l, find glb g = some l → g < W.heap.size) (hb : Below W.heap.size W w)
include hG hS hb
theorem call_sz {a : Option Addr} {n cap : Nat} (hle : n ≤ 9223372036854775807) : Calls Tryd.prog 8 #[.slice a n cap, .int .i64 1048576] w fun e w' => (∃ z : Int, e = .returned (.int .i64 z) ∧ (n ≤ 1048576 → 0 ≤ z) ∧ (¬ n ≤ 1048576 → z < 0)) ∧ Below w.heap.size w w' := by
  have h := use_con con_szL rfl rfl hG hS hb (ins := [.slice a n cap, .int .i64 1048576]) (K := fun outs => ∃ z : Int, outs = [.int .i64 z] ∧ (n ≤ 1048576 → 0 ≤ z) ∧ (¬ n ≤ 1048576 → z < 0)) (TypedL_cons' ⟨a, n, cap, rfl, hle⟩ (TypedL_cons' ⟨_, rfl, by decide⟩ TypedL_nil')) (fun x c n h => by cases h) ⟨pre_szL _, by
      by_cases h : n ≤ 1048576
      · rw [szL_le h]; exact ⟨_, rfl, fun _ => by omega, fun h2 => absurd h h2⟩
      · rw [szL_gt h hle]; exact ⟨_, rfl, fun h2 => absurd h2 h, fun _ => by omega⟩⟩
  refine h.mono ?_
  rintro e w' ⟨outs, v, rfl, L⟩
  obtain ⟨z, rfl, hz⟩ := L.post
  have hr : v = .int .i64 z := L.res
  exact ⟨⟨z, by rw [hr], hz⟩, left_below L⟩
theorem call_eq {x y R : Value} {a b : Option Addr} {m cx cy lo hi lo' hi' : Nat} (hx : x = .slice a m cx) (hy : y = .slice b m cy) (hT : HasTy (.row .i64 4) R) (hsz : R.cells.size = m * 4) (hm : m ≤ 1048576) (l1 : Lay w lo hi x R) (l2 : Lay w lo' hi' y R) :
    Calls Tryd.prog 12 #[x, y] w fun e w' => e = .returned (.bool true) ∧ Below w.heap.size w w' := by
  subst hx hy
  have h := use_con con_eqLayerS rfl rfl hG hS hb (ins := [.slice a m cx, .slice b m cy, R, R]) (K := fun outs => outs = [.bool true]) (TypedL_cons' ⟨_, _, _, rfl, by omega⟩ (TypedL_cons' ⟨_, _, _, rfl, by omega⟩ (TypedL_cons' hT (TypedL_cons' hT TypedL_nil'))))
    (fun x c n h => by
      simp only [sg_eqLayerS, List.mem_cons, List.not_mem_nil, or_false, Prod.mk.injEq] at h
      rcases h with ⟨rfl, rfl, rfl⟩ | ⟨rfl, rfl, rfl⟩
      · exact l1.1
      · exact l2.1) ⟨⟨⟨_, _, _, rfl, hsz, by omega⟩, ⟨_, _, _, rfl, hsz, by omega⟩⟩, by
      show [Value.bool (m == m && allB (sameP R R) 0 m)] = _
      rw [allB_true (same_self R), beq_self_eq_true, Bool.and_self]⟩
  refine h.mono ?_
  rintro e w' ⟨outs, v, rfl, L⟩
  have hp := L.post
  subst hp
  have hr : v = .bool true := L.res
  exact ⟨by rw [hr], left_below L⟩
theorem call_held {x R : Value} {a : Option Addr} {m cx lo hi : Nat} (hx : x = .slice a m cx) (hT : HasTy (.row .i64 4) R) (hsz : R.cells.size = m * 4) (hm : m ≤ 1048576) (l1 : Lay w lo hi x R) (hq : ∀ k, k < m → ∀ j, j < 4 → rq R k j = 1 + 4 * k + j) :
    Calls Tryd.prog 14 #[x, .int .i64 1] w fun e w' => e = .returned (.int .i64 (1 + 4 * (m : Int))) ∧ Below w.heap.size w w' := by
  subst hx
  have h := use_con con_heldL rfl rfl hG hS hb (ins := [.slice a m cx, .int .i64 1, R]) (K := fun outs => outs = [.int .i64 (1 + 4 * (m : Int))]) (TypedL_cons' ⟨_, _, _, rfl, by omega⟩ (TypedL_cons' ⟨_, rfl, by decide⟩ (TypedL_cons' hT TypedL_nil')))
    (fun x c n h => by
      simp only [sg_heldL, List.mem_cons, List.not_mem_nil, or_false, Prod.mk.injEq] at h
      obtain ⟨rfl, rfl, rfl⟩ := h
      exact l1.1) ⟨⟨⟨_, _, _, rfl, hsz, by omega⟩, hm, ⟨by show (0 : Int) ≤ 1; decide, by show (1 : Int) ≤ 100; decide⟩, hq⟩, rfl⟩
  refine h.mono ?_
  rintro e w' ⟨outs, v, rfl, L⟩
  have hp := L.post
  subst hp
  have hr : v = .int .i64 (1 + 4 * (m : Int)) := L.res
  exact ⟨by rw [hr], left_below L⟩
/-- A copy. -/
theorem call_toL {x c : Value} {a : Option Addr} {n cx lo hi : Nat} (hx : x = .slice a n cx) (hT : HasTy (.row .i64 4) c) (hsz : c.cells.size = n * 4) (hm : n ≤ 1048576) (l1 : Lay w lo hi x c) :
    Calls Tryd.prog 10 #[x] w fun e w' => (∃ a' cap', e = .returned (.slice a' n cap') ∧ Lay w' w.heap.size w'.heap.size (.slice a' n cap') c) ∧ Below w.heap.size w w' := by
  subst hx
  have h := use_con con_toL rfl rfl hG hS hb (ins := [.slice a n cx, c]) (K := fun outs => ∃ a' cap', outs = [.slice a' n cap', c]) (TypedL_cons' ⟨_, _, _, rfl, by omega⟩ (TypedL_cons' hT TypedL_nil'))
    (fun x c n h => by
      simp only [sg_toL, List.mem_cons, List.not_mem_nil, or_false, Prod.mk.injEq] at h
      obtain ⟨rfl, rfl, rfl⟩ := h
      exact l1.1) ⟨⟨_, _, _, rfl, hsz, by omega⟩, hm, fun a' cap' => ⟨a', cap', rfl⟩⟩
  refine h.mono ?_
  rintro e w' ⟨outs, v, rfl, L⟩
  obtain ⟨a', cap', rfl⟩ := L.post
  have hr : v = .slice a' n cap' := L.res
  obtain ⟨r1, r2⟩ := L.rows 0 1 4 (by simp [sg_toL])
  exact ⟨⟨a', cap', by rw [hr], r1, fun k hk => ⟨(r2 k hk).1, r1.block hk⟩⟩, left_below L⟩
theorem call_sback {x c : Value} {a : Option Addr} {n cx lo hi : Nat} (hx : x = .slice a n cx) (hT : HasTy (.row .i64 4) c) (hsz : c.cells.size = n * 4) (hm : n ≤ 1048576) (l1 : Lay w lo hi x c) {V : Bool} (hV : (allB (layP c) 0 n && decide ((n : Int) ≤ 8)) = V) :
    Calls Tryd.prog 9 #[x] w fun e w' => (∃ a' cap', e = .returned (.tuple #[.slice a' (if V = true then n else 0) cap', .bool V]) ∧ Lay w' w.heap.size w'.heap.size (.slice a' (if V = true then n else 0) cap') (if V = true then revR c n else .agg #[])) ∧ Below w.heap.size w w' := by
  subst hx
  have h := use_con con_sFilmBack rfl rfl hG hS hb (ins := [.slice a n cx, c]) (K := fun outs => ∃ a' cap', outs = [.slice a' (if V = true then n else 0) cap', .bool V, (if V = true then revR c n else .agg #[])]) (TypedL_cons' ⟨_, _, _, rfl, by omega⟩ (TypedL_cons' hT TypedL_nil'))
    (fun x c n h => by
      simp only [sg_sFilmBack, List.mem_cons, List.not_mem_nil, or_false, Prod.mk.injEq] at h
      obtain ⟨rfl, rfl, rfl⟩ := h
      exact l1.1) ⟨⟨_, _, _, rfl, hsz, by omega⟩, fun h => by
        have h : (allB (layP c) 0 n && decide ((n : Int) ≤ 8)) = true := h
        have e : V = true := hV.symm.trans h
        subst e
        exact fun a' cap' => ⟨a', cap', rfl⟩, fun h => by
        have h : (allB (layP c) 0 n && decide ((n : Int) ≤ 8)) = false := h
        have e : V = false := hV.symm.trans h
        subst e
        exact fun a' cap' => ⟨a', cap', rfl⟩⟩
  refine h.mono ?_
  rintro e w' ⟨outs, v, rfl, L⟩
  obtain ⟨a', cap', rfl⟩ := L.post
  have hr : v = .tuple #[.slice a' (if V = true then n else 0) cap', .bool V] := L.res
  obtain ⟨r1, r2⟩ := L.rows 0 2 4 (by simp [sg_sFilmBack])
  exact ⟨⟨a', cap', by rw [hr], r1, fun k hk => ⟨(r2 k hk).1, r1.block hk⟩⟩, left_below L⟩
theorem call_iback {x c : Value} {a : Option Addr} {n cx lo hi : Nat} (hx : x = .slice a n cx) (hT : HasTy (.row .i64 4) c) (hsz : c.cells.size = n * 4) (hm : n ≤ 1048576) (l1 : Lay w lo hi x c) {V : Bool} (hV : (allB (layP c) 0 n && decide ((n : Int) ≤ 8)) = V) :
    Calls Tryd.prog 11 #[x] w fun e w' => (∃ a' cap', e = .returned (.tuple #[.slice a' (if V = true then n else 0) cap', .bool V]) ∧ Lay w' w.heap.size w'.heap.size (.slice a' (if V = true then n else 0) cap') (if V = true then revR c n else .agg #[]) ∧
        ((if V = true then n else 0) = 0 ∨ ∃ g, a' = some ⟨g, 0, none⟩ ∧ w'.there g 0 (4 * (if V = true then n else 0)))) ∧ Below w.heap.size w w' := by
  subst hx
  have h := use_con con_iFilmBackO rfl rfl hG hS hb (ins := [.slice a n cx, c]) (K := fun outs => ∃ a' cap', outs = [.slice a' (if V = true then n else 0) cap', .bool V, (if V = true then revR c n else .agg #[])]) (TypedL_cons' ⟨_, _, _, rfl, by omega⟩ (TypedL_cons' hT TypedL_nil'))
    (fun x c n h => by
      simp only [sg_iFilmBackO, List.mem_cons, List.not_mem_nil, or_false, Prod.mk.injEq] at h
      obtain ⟨rfl, rfl, rfl⟩ := h
      exact l1.1) ⟨⟨_, _, _, rfl, hsz, by omega⟩, fun h => by
        have h : (allB (layP c) 0 n && decide ((n : Int) ≤ 8)) = true := h
        have e : V = true := hV.symm.trans h
        subst e
        exact fun a' cap' => ⟨a', cap', rfl⟩, fun h => by
        have h : (allB (layP c) 0 n && decide ((n : Int) ≤ 8)) = false := h
        have e : V = false := hV.symm.trans h
        subst e
        exact fun a' cap' => ⟨a', cap', rfl⟩⟩
  refine h.mono ?_
  rintro e w' ⟨outs, v, rfl, L⟩
  obtain ⟨a', cap', rfl⟩ := L.post
  have hr : v = .tuple #[.slice a' (if V = true then n else 0) cap', .bool V] := L.res
  obtain ⟨r1, r2⟩ := L.rows 0 2 4 (by simp [sg_iFilmBackO])
  obtain ⟨_, len, xs, hxs, ⟨q1, q2⟩, _⟩ := L.owns 0 2 4 49 (by simp [sg_iFilmBackO])
  refine ⟨⟨a', cap', by rw [hr], ⟨r1, fun k hk => ⟨(r2 k hk).1, r1.block hk⟩⟩, ?_⟩, left_below L⟩
  rcases q2 with ⟨e1, e2⟩ | ⟨g, cap2, cur, e1, e2, e3, e4, e5, e6, e7⟩
  · left
    have e1 : Value.slice a' (if V = true then n else 0) cap' = .slice none 0 0 := e1
    injection e1
  · have e1 : Value.slice a' (if V = true then n else 0) cap' = .slice (some ⟨g, 0, none⟩) len cap2 := e1
    injection e1 with f1 f2 f3
    right
    refine ⟨g, f1, fun j hj => ?_⟩
    rw [f2] at hj
    have hj2 : j < cur.size := by rw [e6]; omega
    constructor
    · rw [Nat.zero_add]
      have : w'.cell? ⟨g, j, none⟩ = cur[j]? := by simp [World.cell?, e3]
      rw [this, Array.getElem?_eq_getElem hj2]
      rfl
    · simp [World.frozen?, e3]
end
set_option maxHeartbeats 800000 in
set_option maxRecDepth 1000000 in
theorem toLO_walk (b off len cap : Nat) (zs : Nat → Int) (w : World) (hl : len ≤ 1048576) (hb : b < w.heap.size) (h64 : ∀ j, j < 4 * len → IntKind.i64.wrap (zs j) = zs j)
    (hc : ∀ j, j < 4 * len → w.cell? ⟨b, off + j, none⟩ = some (.int .i64 (zs j))) :
    Calls Tryd.prog 10 #[.slice (some ⟨b, off, none⟩) len cap] w fun e w' =>
      e = .returned (.slice (some ⟨w.heap.size, 0, none⟩) len len) ∧ RowKit.Below w.heap.size w w' ∧ w.heap.size < w'.heap.size ∧ (∀ j, j < 4 * len → w'.cell? ⟨w.heap.size, j, none⟩ = some (.int .i64 (zs j))) ∧ w'.there w.heap.size 0 (4 * len) := by
  have hmk := toL_make w len hl
  go_enter Tryd.func10, Tryd.ntmps10
  go_wp2
  go_loopw [4] (fun i wr => ∃ k : Nat, k ≤ len ∧ i = .int .i64 k ∧ RowKit.Below w.heap.size w wr ∧ w.heap.size < wr.heap.size ∧ wr.there w.heap.size 0 (4 * len) ∧ ∀ j, j < 4 * k → wr.cell? ⟨w.heap.size, j, none⟩ = some (.int .i64 (zs j)))
    (fun i _ => len - (match i with | .int _ n => n.toNat | _ => 0))
  case atStart =>
    refine ⟨0, Nat.zero_le _, rfl, (RowKit.Below.refl _ _).alloc (Nat.le_refl _) _, by show _ < (w.heap.push _).size; rw [Array.size_push]; omega, fun j hj => ⟨?_, ?_⟩, fun j hj => by omega⟩
    · rw [Nat.zero_add, World.cell?_alloc_at _ _ _ _ rfl, Array.getElem?_eq_getElem (by rw [size_madeCells]; omega)]; rfl
    · exact World.frozen?_alloc_at _ _ _ _ rfl
  case round =>
    obtain ⟨k, hk, rfl, hB, hs, hth, heq⟩ := hrel
    by_cases hlt : k < len
    · have c0 : wr.cell? ⟨b, off + k * 4, none⟩ = some (.int .i64 (zs (4 * k))) := by rw [hB.cell hb, show off + k * 4 = off + 4 * k by omega]; exact hc _ (by omega)
      have c1 : wr.cell? ⟨b, off + k * 4 + 1, none⟩ = some (.int .i64 (zs (4 * k + 1))) := by rw [hB.cell hb, show off + k * 4 + 1 = off + (4 * k + 1) by omega]; exact hc _ (by omega)
      have c2 : wr.cell? ⟨b, off + k * 4 + 2, none⟩ = some (.int .i64 (zs (4 * k + 2))) := by rw [hB.cell hb, show off + k * 4 + 2 = off + (4 * k + 2) by omega]; exact hc _ (by omega)
      have c3 : wr.cell? ⟨b, off + k * 4 + 3, none⟩ = some (.int .i64 (zs (4 * k + 3))) := by rw [hB.cell hb, show off + k * 4 + 3 = off + (4 * k + 3) by omega]; exact hc _ (by omega)
      go_wp2_with fail
      refine (toL_elem _ _ _ _ (h64 _ (by omega)) (h64 _ (by omega)) (h64 _ (by omega)) (h64 _ (by omega)) _).mono ?_
      rintro e w1 ⟨rfl, hB1⟩
      have hth1 : w1.there w.heap.size 0 (4 * len) := fun j hj => by
        rw [hB1.cell hs, hB1.frozen hs]
        exact hth j hj
      have hth2 : w1.there w.heap.size (k * 4) 4 := fun j hj => by
        have := hth1 (k * 4 + j) (by omega)
        rwa [Nat.zero_add] at this
      have hone := all_oneCell_toArray (cs := [.int .i64 (zs (4 * k)), .int .i64 (zs (4 * k + 1)), .int .i64 (zs (4 * k + 2)), .int .i64 (zs (4 * k + 3))]) (by intro v hv; simp only [List.mem_cons, List.not_mem_nil, or_false] at hv; rcases hv with rfl | rfl | rfl | rfl <;> rfl)
      go_wp2_with (first | (refine wpList_store_mid rfl 49 (.tmp 21) (.tmp 20) rfl w.heap.size (k * 4) _ rfl rfl hth2 (by kernel_rfl) hone ?_) | fail)
      go_roundw
      case rel =>
        refine ⟨k + 1, by omega, by simp, ?_, ?_, ?_, ?_⟩
        · exact (((hB.trans (hB1.mono (by omega))).setCell (p := ⟨w.heap.size, k * 4, none⟩) (Nat.le_refl _) _).setCell (p := ⟨w.heap.size, k * 4 + 1, none⟩) (Nat.le_refl _) _).setCell (p := ⟨w.heap.size, k * 4 + 2, none⟩) (Nat.le_refl _) _ |>.setCell (p := ⟨w.heap.size, k * 4 + 3, none⟩) (Nat.le_refl _) _
        · have := hB1.size; simp [World.setCells, World.setCell]; omega
        · exact World.there_setCells hth1 _ _ _
        · intro j hj
          by_cases h : j < 4 * k
          · rw [World.cell?_setCells_out _ _ _ _ _ (fun _ _ => Or.inl (by show j < k * 4; omega)), hB1.cell hs]
            exact heq j h
          · have := World.rangeAt_setCells_same w1 w.heap.size (k * 4) [.int .i64 (zs (4 * k)), .int .i64 (zs (4 * k + 1)), .int .i64 (zs (4 * k + 2)), .int .i64 (zs (4 * k + 3))] hth2 (j - k * 4)
            rw [show k * 4 + (j - k * 4) = j by omega] at this
            obtain ⟨i, hi, rfl⟩ : ∃ i, i < 4 ∧ j = 4 * k + i := ⟨j - 4 * k, by omega, by omega⟩
            rw [show 4 * k + i - k * 4 = i by omega] at this
            match i, hi with
            | 0, _ => exact this _ rfl
            | 1, _ => exact this _ rfl
            | 2, _ => exact this _ rfl
            | 3, _ => exact this _ rfl
      case measure => simp; omega
    · have hk2 : k = len := by omega
      subst hk2
      go_wp2
      go_ret
      exact ⟨rfl, hB, hs, heq, hth⟩
theorem call_toLO {x c : Value} {a : Option Addr} {n cx lo hi : Nat} {w : World} (hx : x = .slice a n cx) (hT : HasTy (.row .i64 4) c) (hsz : c.cells.size = n * 4) (hm : n ≤ 1048576) (l1 : Lay w lo hi x c) :
    Calls Tryd.prog 10 #[x] w fun e w' => e = .returned (.slice (some ⟨w.heap.size, 0, none⟩) n n) ∧ Lay w' w.heap.size w'.heap.size (.slice (some ⟨w.heap.size, 0, none⟩) n n) c ∧ w'.there w.heap.size 0 (4 * n) ∧ Below w.heap.size w w' := by
  subst hx
  have nf := row_noFat hT
  obtain ⟨arr, rfl, hrow⟩ := l1.1.flat nf
  obtain ⟨arr', ha, hdv, hty⟩ := hT
  cases ha
  have hsz : arr.size = n * 4 := hsz
  have lay : ∀ w' : World, w.heap.size < w'.heap.size → (∀ j (h : j < arr.size), w'.cell? ⟨w.heap.size, 0 + j, none⟩ = some arr[j]) → Lay w' w.heap.size w'.heap.size (.slice (some ⟨w.heap.size, 0, none⟩) n n) (.agg arr) := fun w' hs hc => by
    refine ⟨RowOk.plain nf (.inr ⟨⟨w.heap.size, 0, none⟩, n, n, rfl, rfl, by omega, hs, hc⟩), fun k hk => ?_⟩
    obtain ⟨p, l, cc, e, rfl⟩ := BlkOf.plain (c := .agg arr) nf hk
    cases e
    exact ⟨Nat.le_refl _, hs⟩
  rcases hrow with ⟨cap, hx0, harr⟩ | ⟨p, len, cap, hx0, hsp, hl, hblk, hcell⟩
  · cases hx0
    refine (toL_nil cx w).mono ?_
    rintro e w' ⟨rfl, hb, hs⟩
    exact ⟨rfl, lay w' hs (fun j h => by rw [harr] at h; simp at h), fun j hj => by omega, hb⟩
  · cases hx0
    obtain ⟨b, off, spot⟩ := p
    have hsp : spot = none := hsp
    subst hsp
    have hz : ∀ j (h : j < arr.size), arr[j] = .int .i64 (toI arr[j]) := fun j h => by
      obtain ⟨z, hz, _⟩ := hty arr[j] (Array.getElem_mem h)
      rw [hz]; rfl
    refine (toLO_walk b off n cx (fun j => toI (arr.getD j undef)) w hm hblk (fun j hj => ?_) fun j hj => ?_).mono ?_
    · have hj' : j < arr.size := by omega
      obtain ⟨z, hz1, hz2⟩ := hty arr[j] (Array.getElem_mem hj')
      have e : arr.getD j undef = .int .i64 z := by rw [← hz1]; simp [hj']
      simp only [e, toI_int]
      exact hz2
    · have hj' : j < arr.size := by omega
      rw [hcell j hj', hz j hj']
      simp [hj']
    · rintro e w' ⟨rfl, hb, hs, hc, hth⟩
      refine ⟨rfl, lay w' hs (fun j h => ?_), hth, hb⟩
      rw [Nat.zero_add, hc j (by omega), hz j h]
      simp [h]


def sg_FnExactFilmBack : Sig := { args := [.s (.e (.var 0))], pre := [], tin := [.sl, .row .i64 4], gin := [(0, 1, 4)], res := .c (.s (.e (.var 0))), post := [], tout := [.bool], gout := [] }
theorem rev_ty {c : Value} {n : Nat} (hT : HasTy (.row .i64 4) c) (hs : c.cells.size = n * 4) : HasTy (.row .i64 4) (revR c n) := by
  obtain ⟨arr, rfl, _, h2⟩ := hT
  have hs : arr.size = n * 4 := hs
  have el : ∀ i, i < arr.size → ∃ z, (Value.agg arr).cells.getD i undef = .int .i64 z ∧ IntKind.i64.wrap z = z := fun i hi => by
    obtain ⟨z, h3, h4⟩ := h2 arr[i] (Array.getElem_mem hi)
    exact ⟨z, by rw [← h3]; simp [Value.cells, hi], h4⟩
  have key : ∀ k, k ≤ n → ∀ x ∈ revV (.agg arr) n k, ∃ z, x = .int .i64 z ∧ IntKind.i64.wrap z = z := by
    intro k
    induction k with
    | zero => intro _ x hx; cases hx
    | succ k ih =>
      intro hk x hx
      rw [revV, List.mem_append] at hx
      rcases hx with hx | hx
      · exact ih (by omega) x hx
      · simp only [four, List.mem_cons, List.not_mem_nil, or_false] at hx
        rcases hx with rfl | rfl | rfl | rfl
        · exact el _ (by omega)
        · exact el _ (by omega)
        · exact el _ (by omega)
        · exact el _ (by omega)
  refine ⟨_, rfl, ?_, fun x hx => key n (Nat.le_refl _) x (by simpa using hx)⟩
  rw [List.size_toArray, revV_length]
  omega
theorem there_keep {w w' : World} {g o n : Nat} (h : w.there g o n) (hb : w'.heap[g]? = w.heap[g]?) : w'.there g o n := fun j hj => by
  rw [World.cell?_of_block (w := w) (a := ⟨g, o + j, none⟩) hb, World.frozen?_of_block (w := w) (a := ⟨g, o + j, none⟩) hb]
  exact h j hj
set_option maxHeartbeats 8000000 in
set_option maxRecDepth 1000000 in
theorem back_walk {W : World} (hG : GlbOk glb W) (hS : ∀ g l, find glb g = some l → g < W.heap.size) {a : Option Addr} {n cap : Nat} {c : Value} (hc : c.cells.size = n * 4) (hn : n ≤ 9223372036854775807) (hT : HasTy (.row .i64 4) c) (hR : RowOk W (.slice a n cap) c 4) :
    Calls Tryd.prog 3 #[.slice a n cap] W fun e w' => e = .returned (.bool true) ∧ Below W.heap.size W w' := by
  have l0 : Lay W 0 W.heap.size (.slice a n cap) c := ⟨hR, fun k hk => ⟨Nat.zero_le _, hR.block hk⟩⟩
  have bb := Below.refl W.heap.size W
  go_enter Tryd.func3, Tryd.ntmps3
  go_wp2_with fail
  refine (call_sz hG hS bb hn).mono ?_
  rintro e w1 ⟨⟨z, rfl, hz1, hz2⟩, b1⟩
  have s1 := b1.size
  have c1 := bb.trans b1
  by_cases hle : n ≤ 1048576
  · have hz := hz1 hle
    clear hz1 hz2
    have l0 := l0.below b1 (Nat.le_refl _)
    obtain ⟨V, hV⟩ : ∃ V, (allB (layP c) 0 n && decide ((n : Int) ≤ 8)) = V := ⟨_, rfl⟩
    obtain ⟨m, hm⟩ : ∃ m, (if V = true then n else 0) = m := ⟨_, rfl⟩
    obtain ⟨R, hRe⟩ : ∃ R, (if V = true then revR c n else Value.agg #[]) = R := ⟨_, rfl⟩
    have hmn : m ≤ 1048576 := by rw [← hm]; split <;> omega
    have hRs : R.cells.size = m * 4 := by
      rw [← hm, ← hRe]
      cases V
      · rfl
      · exact revR_size c n
    have hRT : HasTy (.row .i64 4) R := by
      rw [← hRe]
      cases V
      · exact ⟨_, rfl, ⟨0, rfl⟩, fun x hx => by simp at hx⟩
      · exact rev_ty hT hc
    have sback : ∀ {w : World} {x : Value} {a : Option Addr} {cx lo hi : Nat}, Below W.heap.size W w → x = .slice a n cx → Lay w lo hi x c → Calls Tryd.prog 9 #[x] w fun e w' => (∃ a' cap', e = .returned (.tuple #[.slice a' m cap', .bool V]) ∧ Lay w' w.heap.size w'.heap.size (.slice a' m cap') R) ∧ Below w.heap.size w w' := fun hb hx hl => by
      have h := call_sback hG hS hb hx hT hc hle hl hV
      rw [hm, hRe] at h
      exact h
    have iback : ∀ {w : World} {x : Value} {a : Option Addr} {cx lo hi : Nat}, Below W.heap.size W w → x = .slice a n cx → Lay w lo hi x c → Calls Tryd.prog 11 #[x] w fun e w' => (∃ a' cap', e = .returned (.tuple #[.slice a' m cap', .bool V]) ∧ Lay w' w.heap.size w'.heap.size (.slice a' m cap') R ∧ (m = 0 ∨ ∃ g, a' = some ⟨g, 0, none⟩ ∧ w'.there g 0 (4 * m))) ∧ Below w.heap.size w w' := fun hb hx hl => by
      have h := call_iback hG hS hb hx hT hc hle hl hV
      rw [hm, hRe] at h
      exact h
    clear hV hm hRe
    go_wp2_with fail
    refine (call_toL hG hS c1 rfl hT hc hle l0).mono ?_
    rintro e w2 ⟨⟨a1, cap1, rfl, l1⟩, b2⟩
    have s2 := b2.size
    have c2 := c1.trans (b2.mono (by omega))
    have l0 := l0.below b2 (by omega)
    go_wp2_with fail
    refine (sback c2 rfl l1).mono ?_
    rintro e w3 ⟨⟨a2, cap2, rfl, lW⟩, b3⟩
    have s3 := b3.size
    have c3 := c2.trans (b3.mono (by omega))
    have l0 := l0.below b3 (by omega)
    go_wp2_with fail
    refine (call_toLO rfl hT hc hle l0).mono ?_
    rintro e w4 ⟨rfl, lX, thX, b4⟩
    have s4 := b4.size
    have c4 := c3.trans (b4.mono (by omega))
    have l0 := l0.below b4 (by omega)
    have lW := lW.below b4 (by omega)
    go_wp2_with fail
    refine (iback c4 rfl lX).mono ?_
    rintro e w5 ⟨⟨a3, cap3, rfl, lG, thG⟩, b5⟩
    have s5 := b5.size
    have c5 := c4.trans (b5.mono (by omega))
    have l0 := l0.below b5 (by omega)
    have lW := lW.below b5 (by omega)
    have lX := lX.below b5 (by omega)
    go_wp2_with fail
    refine (call_eq hG hS c5 rfl rfl hRT hRs hmn lG lW).mono ?_
    rintro e w6 ⟨rfl, b6⟩
    have s6 := b6.size
    have c6 := c5.trans (b6.mono (by omega))
    have l0 := l0.below b6 (by omega)
    have lW := lW.below b6 (by omega)
    have lX := lX.below b6 (by omega)
    have lG := lG.below b6 (by omega)
    go_wp2_with fail
    refine (call_toL hG hS c6 rfl hT hc hle l0).mono ?_
    rintro e w7 ⟨⟨a4, cap4, rfl, l4⟩, b7⟩
    have s7 := b7.size
    have c7 := c6.trans (b7.mono (by omega))
    have l0 := l0.below b7 (by omega)
    have lW := lW.below b7 (by omega)
    have lX := lX.below b7 (by omega)
    have lG := lG.below b7 (by omega)
    go_wp2_with fail
    refine (call_eq hG hS c7 rfl rfl hT hc hle lX l4).mono ?_
    rintro e w8 ⟨rfl, b8⟩
    have s8 := b8.size
    have c8 := c7.trans (b8.mono (by omega))
    have l0 := l0.below b8 (by omega)
    have lW := lW.below b8 (by omega)
    have lX := lX.below b8 (by omega)
    have lG := lG.below b8 (by omega)
    have t58 : Below w5.heap.size w5 w8 := (b6.trans (b7.mono (by omega))).trans (b8.mono (by omega))
    have t48 : Below w4.heap.size w4 w8 := b5.trans (t58.mono (by omega))
    have thX8 : w8.there w3.heap.size 0 (4 * n) := by
      by_cases hz0 : n = 0
      · intro j hj; omega
      · have hlt : w3.heap.size < w4.heap.size := (lX.2 w3.heap.size (.inl ⟨_, _, _, rfl, rfl⟩)).2
        exact there_keep thX (t48.block _ hlt)
    go_wp2_with fail
    refine (mark_use rfl lX.1 hT hc hle (.inr ⟨_, rfl, thX8⟩)).mono ?_
    rintro e w9 ⟨rfl, o1, o2, o3, o4, o5, _⟩
    have b9 : Below w3.heap.size w8 w9 := ⟨o1, o2, o3, by omega, fun k hk => o5 k fun hb => by have := (lX.2 k hb).1; omega⟩
    have u9 : ∀ k, w4.heap.size ≤ k → w9.heap[k]? = w8.heap[k]? := fun k hk => o5 k fun hb => by have := (lX.2 k hb).2; omega
    have c9 := c8.trans (b9.mono (by omega))
    have l0 := l0.below b9 (by omega)
    have lW := lW.below b9 (by omega)
    have lG := lG.keep (w' := w9) (by omega) fun k h1 _ => u9 k h1
    have s9 : w8.heap.size ≤ w9.heap.size := by omega
    clear o1 o2 o3 o5
    go_wp2_with fail
    refine (call_eq hG hS c9 rfl rfl hRT hRs hmn lG lW).mono ?_
    rintro e w10 ⟨rfl, b10⟩
    have s10 := b10.size
    have c10 := c9.trans (b10.mono (by omega))
    have l0 := l0.below b10 (by omega)
    have lW := lW.below b10 (by omega)
    have lG := lG.below b10 (by omega)
    have thG10 : m = 0 ∨ ∃ g, a3 = some ⟨g, 0, none⟩ ∧ w10.there g 0 (4 * m) := by
      rcases thG with h | ⟨g, rfl, hg⟩
      · exact .inl h
      · obtain ⟨q1, q2⟩ := lG.2 g (.inl ⟨_, _, _, rfl, rfl⟩)
        refine .inr ⟨g, rfl, there_keep hg ?_⟩
        rw [b10.block g (by omega), u9 g q1, t58.block g q2]
    go_wp2_with fail
    refine (mark_use rfl lG.1 hRT hRs hmn thG10).mono ?_
    rintro e w11 ⟨rfl, o1, o2, o3, o4', o5, R', p1, p2, p3, p4, p5⟩
    have b11 : Below w3.heap.size w10 w11 := ⟨o1, o2, o3, by omega, fun k hk => o5 k fun hb => by have := (lG.2 k hb).1; omega⟩
    have c11 := c10.trans (b11.mono (by omega))
    have l0 := l0.below b11 (by omega)
    have lW := lW.below b11 (by omega)
    have lH : Lay w11 w4.heap.size w5.heap.size (.slice a3 m cap3) R' := ⟨p1, fun k hk => lG.2 k (p4 k hk)⟩
    have s11 : w10.heap.size ≤ w11.heap.size := by omega
    clear o1 o2 o3 o5 lG
    go_wp2_with fail
    refine (call_held hG hS c11 rfl p2 p3 hmn lH p5).mono ?_
    rintro e w12 ⟨rfl, b12⟩
    have s12 := b12.size
    have c12 := c11.trans (b12.mono (by omega))
    have l0 := l0.below b12 (by omega)
    have lW := lW.below b12 (by omega)
    have lH := lH.below b12 (by omega)
    go_wp2_with fail
    refine (call_toL hG hS c12 rfl hT hc hle l0).mono ?_
    rintro e w13 ⟨⟨a5, cap5, rfl, l5⟩, b13⟩
    have s13 := b13.size
    have c13 := c12.trans (b13.mono (by omega))
    have lW := lW.below b13 (by omega)
    have lH := lH.below b13 (by omega)
    go_wp2_with fail
    refine (iback c13 rfl l5).mono ?_
    rintro e w14 ⟨⟨a6, cap6, rfl, l6, _⟩, b14⟩
    have s14 := b14.size
    have c14 := c13.trans (b14.mono (by omega))
    have lW := lW.below b14 (by omega)
    have lH := lH.below b14 (by omega)
    go_wp2_with fail
    refine (call_eq hG hS c14 rfl rfl hRT hRs hmn l6 lW).mono ?_
    rintro e w15 ⟨rfl, b15⟩
    have s15 := b15.size
    have c15 := c14.trans (b15.mono (by omega))
    have lH := lH.below b15 (by omega)
    go_wp2_with fail
    refine (call_held hG hS c15 rfl p2 p3 hmn lH p5).mono ?_
    rintro e w16 ⟨rfl, b16⟩
    have c16 := c15.trans (b16.mono (by omega))
    go_wp2
    go_ret
    exact ⟨rfl, c16⟩
  · have hz := hz2 hle
    go_wp2
    go_ret
    exact ⟨rfl, c1⟩
theorem con_FnExactFilmBack : ConOK Tryd.prog glb 3 sg_FnExactFilmBack F_FnExactFilmBack.spec := by
  intro w bs ins K g ⟨hp, hK⟩
  have hbs : bs = [] := List.eq_nil_of_length_eq_zero g.len
  subst hbs
  obtain ⟨x, c, rfl, hx, hT⟩ := two_of g.typed
  obtain ⟨a, n, cap, rfl, hc, hn⟩ : Fit4 x c := hp
  have hK : K [.bool true] := hK
  refine (back_walk g.glob (fun g' l hg => (g.globbs g' l hg).1) hc hn hT (g.rows 0 1 4 List.mem_cons_self).1).mono ?_
  rintro e w' ⟨rfl, hb⟩
  exact ⟨[.bool true], [], _, rfl,
    { post := hK
      typed := TypedL_cons' ⟨_, rfl⟩ TypedL_nil'
      len := rfl
      old := fun k hk => by simp at hk
      new := fun k _ hk => by simp at hk
      nodup := List.nodup_nil
      res := rfl
      blk := fun k b hb => by simp [sg_FnExactFilmBack] at hb
      rows := fun x c n hm => by simp [sg_FnExactFilmBack] at hm
      os := hb.os
      tape := hb.tape
      output := hb.output
      size := hb.size
      frame := fun k hk _ => hb.block k hk }⟩


end Go.Proofs.YtebldmiopbfmgaaDoor

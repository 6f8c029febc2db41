/- The contracts of the functions. -/
import Derived.Test.YtacmlnomehkjcaaChecked
import Derived.Test.YtacmlnomehkjcaaRkAFnExactFibreValid
import Derived.WalkKit
import Derived.Laws.OwnMore
import Derived.Deep.MidRow
namespace Go.Proofs.Ytacmlnomehkjcaa
open Go Go.Sx Go.RowKit
set_option maxRecDepth 100000

def glb : List (Nat × List Sc) := []
theorem mixed : Try.prog.follows .mixedOrders = true := by kernel_rfl

def sg_size : Sig := { args := [.s (.e (.var 0))], pre := [], tin := [.int .i64], gin := [], res := .c (.s (.e (.var 0))), post := [], tout := [.int .i64], gout := [] }
def cl_size : List (Nat × Sig) := []
theorem run_size : run ⟨Try.prog, glb, cl_size⟩ [] Try.f25 sg_size (Try.f25.body.getD .skip) = tr_size := by kernel_rfl
theorem om_size : ΩOK ⟨Try.prog, glb, cl_size⟩ (specsOf Fs_size) := ΩOK_nil
theorem con_size : ConOK Try.prog glb 25 sg_size F_size.spec := conOK_tree om_size mixed Try.func25 (by kernel_rfl) run_size

def sg_within : Sig := { args := [.s (.e (.var 0)), .s (.e (.var 1)), .s (.e (.var 2))], pre := [], tin := [.int .i64, .int .i64, .int .i64], gin := [], res := .c (.s (.e (.var 0))), post := [], tout := [.bool], gout := [] }
def cl_within : List (Nat × Sig) := []
theorem run_within : run ⟨Try.prog, glb, cl_within⟩ [] Try.f20 sg_within (Try.f20.body.getD .skip) = tr_within := by kernel_rfl
theorem om_within : ΩOK ⟨Try.prog, glb, cl_within⟩ (specsOf Fs_within) := ΩOK_nil
theorem con_within : ConOK Try.prog glb 20 sg_within F_within.spec := conOK_tree om_within mixed Try.func20 (by kernel_rfl) run_within
theorem cong_within : ConOK Try.prog glb 20 sg_within G_within.spec := con_within.as as_within

def sg_l6In : Sig := { args := [.s (.e (.var 0)), .s (.e (.var 1)), .s (.e (.var 2))], pre := [], tin := [.int .i64, .int .i64, .int .i64], gin := [], res := .c (.s (.e (.var 0))), post := [], tout := [.bool], gout := [] }
def cl_l6In : List (Nat × Sig) := []
theorem run_l6In : run ⟨Try.prog, glb, cl_l6In⟩ [] Try.f17 sg_l6In (Try.f17.body.getD .skip) = tr_l6In := by kernel_rfl
theorem om_l6In : ΩOK ⟨Try.prog, glb, cl_l6In⟩ (specsOf Fs_l6In) := ΩOK_nil
theorem con_l6In : ConOK Try.prog glb 17 sg_l6In F_l6In.spec := conOK_tree om_l6In mixed Try.func17 (by kernel_rfl) run_l6In
theorem cong_l6In : ConOK Try.prog glb 17 sg_l6In G_l6In.spec := con_l6In.as as_l6In

def sg_l2In : Sig := { args := [.s (.e (.var 0))], pre := [], tin := [.int .i64], gin := [], res := .c (.s (.e (.var 0))), post := [], tout := [.bool], gout := [] }
def cl_l2In : List (Nat × Sig) := [(17, sg_l6In)]
theorem run_l2In : run ⟨Try.prog, glb, cl_l2In⟩ [] Try.f27 sg_l2In (Try.f27.body.getD .skip) = tr_l2In := by kernel_rfl
theorem om_l2In : ΩOK ⟨Try.prog, glb, cl_l2In⟩ (specsOf Fs_l2In) := (ΩOK_cons cong_l6In Try.call17 ΩOK_nil)
theorem con_l2In : ConOK Try.prog glb 27 sg_l2In F_l2In.spec := conOK_tree om_l2In mixed Try.func27 (by kernel_rfl) run_l2In
theorem cong_l2In : ConOK Try.prog glb 27 sg_l2In G_l2In.spec := con_l2In.as as_l2In

def sg_divisor : Sig := { args := [.s (.e (.var 0)), .s (.e (.var 1))], pre := [], tin := [.int .i64, .int .i64], gin := [], res := .c (.s (.e (.var 0))), post := [], tout := [.int .i64], gout := [] }
def cl_divisor : List (Nat × Sig) := []
theorem run_divisor : run ⟨Try.prog, glb, cl_divisor⟩ [(0, ⟨[(0, .int .i64), (1, .int .i64)], []⟩)] Try.f24 sg_divisor (Try.f24.body.getD .skip) = tr_divisor := by kernel_rfl
theorem om_divisor : ΩOK ⟨Try.prog, glb, cl_divisor⟩ (specsOf Fs_divisor) := ΩOK_nil
theorem con_divisor : ConOK Try.prog glb 24 sg_divisor F_divisor.spec := conOK_of om_divisor mixed Try.func24 (by kernel_rfl) run_divisor (fun ins K ht h => sat_divisor Try.prog ins K ht h.1 h.2)

def sg_l2Gcd : Sig := { args := [.s (.e (.var 0)), .s (.e (.var 1))], pre := [], tin := [.int .i64, .int .i64], gin := [], res := .c (.s (.e (.var 0))), post := [], tout := [.int .i64], gout := [] }
def cl_l2Gcd : List (Nat × Sig) := []
theorem run_l2Gcd : run ⟨Try.prog, glb, cl_l2Gcd⟩ [(0, ⟨[(0, .int .i64), (1, .int .i64)], []⟩)] Try.f13 sg_l2Gcd (Try.f13.body.getD .skip) = tr_l2Gcd := by kernel_rfl
theorem om_l2Gcd : ΩOK ⟨Try.prog, glb, cl_l2Gcd⟩ (specsOf Fs_l2Gcd) := ΩOK_nil
theorem con_l2Gcd : ConOK Try.prog glb 13 sg_l2Gcd F_l2Gcd.spec := conOK_of om_l2Gcd mixed Try.func13 (by kernel_rfl) run_l2Gcd (fun ins K ht h => sat_l2Gcd Try.prog ins K ht h.1 h.2)

def sg_lowest : Sig := { args := [.s (.e (.var 0)), .s (.e (.var 1)), .s (.e (.var 2))], pre := [], tin := [.int .i64, .int .i64, .int .i64], gin := [], res := .tu [.ag [.e (.var 0), .e (.var 1), .e (.var 2)], .s (.e (.var 3))], post := [], tout := [.int .i64, .int .i64, .int .i64, .bool], gout := [] }
def cl_lowest : List (Nat × Sig) := [(25, sg_size), (24, sg_divisor), (20, sg_within)]
theorem run_lowest : run ⟨Try.prog, glb, cl_lowest⟩ [] Try.f22 sg_lowest (Try.f22.body.getD .skip) = tr_lowest := by kernel_rfl
theorem om_lowest : ΩOK ⟨Try.prog, glb, cl_lowest⟩ (specsOf Fs_lowest) := (ΩOK_cons con_size Try.call25 (ΩOK_cons con_divisor Try.call24 (ΩOK_cons cong_within Try.call20 ΩOK_nil)))
theorem con_lowest : ConOK Try.prog glb 22 sg_lowest F_lowest.spec := conOK_tree om_lowest mixed Try.func22 (by kernel_rfl) run_lowest
theorem cong_lowest : ConOK Try.prog glb 22 sg_lowest G_lowest.spec := con_lowest.as as_lowest

def sg_sFracValid : Sig := { args := [.ag [.e (.var 0), .e (.var 1), .e (.var 2)]], pre := [], tin := [.int .i64, .int .i64, .int .i64], gin := [], res := .c (.s (.e (.var 0))), post := [], tout := [.bool], gout := [] }
def cl_sFracValid : List (Nat × Sig) := [(27, sg_l2In), (17, sg_l6In), (13, sg_l2Gcd)]
theorem run_sFracValid : run ⟨Try.prog, glb, cl_sFracValid⟩ [] Try.f26 sg_sFracValid (Try.f26.body.getD .skip) = tr_sFracValid := by kernel_rfl
theorem om_sFracValid : ΩOK ⟨Try.prog, glb, cl_sFracValid⟩ (specsOf Fs_sFracValid) := (ΩOK_cons cong_l2In Try.call27 (ΩOK_cons cong_l6In Try.call17 (ΩOK_cons con_l2Gcd Try.call13 ΩOK_nil)))
theorem con_sFracValid : ConOK Try.prog glb 26 sg_sFracValid F_sFracValid.spec := conOK_tree om_sFracValid mixed Try.func26 (by kernel_rfl) run_sFracValid
theorem cong_sFracValid : ConOK Try.prog glb 26 sg_sFracValid G_sFracValid.spec := con_sFracValid.as as_sFracValid

def sg_l2Low : Sig := { args := [.s (.e (.var 0)), .s (.e (.var 1)), .s (.e (.var 2))], pre := [], tin := [.int .i64, .int .i64, .int .i64], gin := [], res := .tu [.ag [.e (.var 0), .e (.var 1), .e (.var 2)], .s (.e (.var 3))], post := [], tout := [.int .i64, .int .i64, .int .i64, .bool], gout := [] }
def cl_l2Low : List (Nat × Sig) := [(13, sg_l2Gcd), (26, sg_sFracValid)]
theorem run_l2Low : run ⟨Try.prog, glb, cl_l2Low⟩ [] Try.f23 sg_l2Low (Try.f23.body.getD .skip) = tr_l2Low := by kernel_rfl
theorem om_l2Low : ΩOK ⟨Try.prog, glb, cl_l2Low⟩ (specsOf Fs_l2Low) := (ΩOK_cons con_l2Gcd Try.call13 (ΩOK_cons cong_sFracValid Try.call26 ΩOK_nil))
theorem con_l2Low : ConOK Try.prog glb 23 sg_l2Low F_l2Low.spec := conOK_tree om_l2Low mixed Try.func23 (by kernel_rfl) run_l2Low
theorem cong_l2Low : ConOK Try.prog glb 23 sg_l2Low G_l2Low.spec := con_l2Low.as as_l2Low

def sg_sFracMake : Sig := { args := [.s (.e (.var 0)), .s (.e (.var 1)), .s (.e (.var 2))], pre := [], tin := [.int .i64, .int .i64, .int .i64], gin := [], res := .tu [.ag [.e (.var 0), .e (.var 1), .e (.var 2)], .s (.e (.var 3))], post := [], tout := [.int .i64, .int .i64, .int .i64, .bool], gout := [] }
def cl_sFracMake : List (Nat × Sig) := [(17, sg_l6In), (23, sg_l2Low)]
theorem run_sFracMake : run ⟨Try.prog, glb, cl_sFracMake⟩ [] Try.f21 sg_sFracMake (Try.f21.body.getD .skip) = tr_sFracMake := by kernel_rfl
theorem om_sFracMake : ΩOK ⟨Try.prog, glb, cl_sFracMake⟩ (specsOf Fs_sFracMake) := (ΩOK_cons cong_l6In Try.call17 (ΩOK_cons cong_l2Low Try.call23 ΩOK_nil))
theorem con_sFracMake : ConOK Try.prog glb 21 sg_sFracMake F_sFracMake.spec := conOK_tree om_sFracMake mixed Try.func21 (by kernel_rfl) run_sFracMake
theorem cong_sFracMake : ConOK Try.prog glb 21 sg_sFracMake G_sFracMake.spec := con_sFracMake.as as_sFracMake

def sg_direction : Sig := { args := [.s (.e (.var 0)), .s (.e (.var 1))], pre := [], tin := [.int .i64, .int .i64], gin := [], res := .tu [.ag [.e (.var 0), .e (.var 1), .e (.var 2)], .ag [.e (.var 3), .e (.var 4), .e (.var 5)], .s (.e (.var 6))], post := [], tout := [.int .i64, .int .i64, .int .i64, .int .i64, .int .i64, .int .i64, .bool], gout := [] }
def cl_direction : List (Nat × Sig) := [(20, sg_within), (22, sg_lowest)]
theorem run_direction : run ⟨Try.prog, glb, cl_direction⟩ [] Try.f19 sg_direction (Try.f19.body.getD .skip) = tr_direction := by kernel_rfl
theorem om_direction : ΩOK ⟨Try.prog, glb, cl_direction⟩ (specsOf Fs_direction) := (ΩOK_cons cong_within Try.call20 (ΩOK_cons cong_lowest Try.call22 ΩOK_nil))
theorem con_direction : ConOK Try.prog glb 19 sg_direction F_direction.spec := conOK_tree om_direction mixed Try.func19 (by kernel_rfl) run_direction
theorem cong_direction : ConOK Try.prog glb 19 sg_direction G_direction.spec := con_direction.as as_direction

def sg_l5Direction : Sig := { args := [.s (.e (.var 0)), .s (.e (.var 1))], pre := [], tin := [.int .i64, .int .i64], gin := [], res := .tu [.ag [.e (.var 0), .e (.var 1), .e (.var 2)], .ag [.e (.var 3), .e (.var 4), .e (.var 5)], .s (.e (.var 6))], post := [], tout := [.int .i64, .int .i64, .int .i64, .int .i64, .int .i64, .int .i64, .bool], gout := [] }
def cl_l5Direction : List (Nat × Sig) := [(17, sg_l6In), (21, sg_sFracMake)]
theorem run_l5Direction : run ⟨Try.prog, glb, cl_l5Direction⟩ [] Try.f16 sg_l5Direction (Try.f16.body.getD .skip) = tr_l5Direction := by kernel_rfl
theorem om_l5Direction : ΩOK ⟨Try.prog, glb, cl_l5Direction⟩ (specsOf Fs_l5Direction) := (ΩOK_cons cong_l6In Try.call17 (ΩOK_cons cong_sFracMake Try.call21 ΩOK_nil))
theorem con_l5Direction : ConOK Try.prog glb 16 sg_l5Direction F_l5Direction.spec := conOK_tree om_l5Direction mixed Try.func16 (by kernel_rfl) run_l5Direction
theorem cong_l5Direction : ConOK Try.prog glb 16 sg_l5Direction G_l5Direction.spec := con_l5Direction.as as_l5Direction

def sg_sectionOk : Sig := { args := [.ag [.e (.var 0), .e (.var 1), .e (.var 2), .e (.var 3)]], pre := [], tin := [.int .i64, .int .i64, .int .i64, .int .i64], gin := [], res := .c (.s (.e (.var 0))), post := [], tout := [.bool], gout := [] }
def cl_sectionOk : List (Nat × Sig) := [(19, sg_direction), (20, sg_within)]
theorem run_sectionOk : run ⟨Try.prog, glb, cl_sectionOk⟩ [] Try.f14 sg_sectionOk (Try.f14.body.getD .skip) = tr_sectionOk := by kernel_rfl
theorem om_sectionOk : ΩOK ⟨Try.prog, glb, cl_sectionOk⟩ (specsOf Fs_sectionOk) := (ΩOK_cons cong_direction Try.call19 (ΩOK_cons cong_within Try.call20 ΩOK_nil))
theorem con_sectionOk : ConOK Try.prog glb 14 sg_sectionOk F_sectionOk.spec := conOK_tree om_sectionOk mixed Try.func14 (by kernel_rfl) run_sectionOk
theorem cong_sectionOk : ConOK Try.prog glb 14 sg_sectionOk G_sectionOk.spec := con_sectionOk.as as_sectionOk

def sg_toSection : Sig := { args := [.ag [.e (.var 0), .e (.var 1), .e (.var 2), .e (.var 3)]], pre := [], tin := [.int .i64, .int .i64, .int .i64, .int .i64], gin := [], res := .c (.ag [.e (.var 0), .e (.var 1), .e (.var 2), .e (.var 3)]), post := [], tout := [.int .i64, .int .i64, .int .i64, .int .i64], gout := [] }
def cl_toSection : List (Nat × Sig) := []
theorem run_toSection : run ⟨Try.prog, glb, cl_toSection⟩ [] Try.f6 sg_toSection (Try.f6.body.getD .skip) = tr_toSection := by kernel_rfl
theorem om_toSection : ΩOK ⟨Try.prog, glb, cl_toSection⟩ (specsOf Fs_toSection) := ΩOK_nil
theorem con_toSection : ConOK Try.prog glb 6 sg_toSection F_toSection.spec := conOK_tree om_toSection mixed Try.func6 (by kernel_rfl) run_toSection

def sg_szS : Sig := { args := [.s (.e (.var 0)), .s (.e (.var 1))], pre := [], tin := [.sl, .int .i64], gin := [], res := .c (.s (.e (.var 0))), post := [], tout := [.int .i64], gout := [] }
def cl_szS : List (Nat × Sig) := []
theorem run_szS : run ⟨Try.prog, glb, cl_szS⟩ [] Try.f8 sg_szS (Try.f8.body.getD .skip) = tr_szS := by kernel_rfl
theorem om_szS : ΩOK ⟨Try.prog, glb, cl_szS⟩ (specsOf Fs_szS) := ΩOK_nil
theorem con_szS : ConOK Try.prog glb 8 sg_szS F_szS.spec := conOK_tree om_szS mixed Try.func8 (by kernel_rfl) run_szS

def sg_iFibreValid : Sig := { args := [.s (.e (.var 0))], pre := [], tin := [.sl, .row .i64 4], gin := [(0, 1, 4)], res := .c (.s (.e (.var 0))), post := [], tout := [.bool], gout := [] }
def cl_iFibreValid : List (Nat × Sig) := [(14, sg_sectionOk)]
theorem run_iFibreValid : run ⟨Try.prog, glb, cl_iFibreValid⟩ [(0, ⟨[(7, .int .i64)], []⟩)] Try.f11 sg_iFibreValid (Try.f11.body.getD .skip) = tr_iFibreValid := by kernel_rfl
theorem om_iFibreValid : ΩOK ⟨Try.prog, glb, cl_iFibreValid⟩ (specsOf Fs_iFibreValid) := (ΩOK_cons cong_sectionOk Try.call14 ΩOK_nil)
theorem con_iFibreValid : ConOK Try.prog glb 11 sg_iFibreValid F_iFibreValid.spec := conOK_of om_iFibreValid mixed Try.func11 (by kernel_rfl) run_iFibreValid (fun ins K ht h => sat_iFibreValid Try.prog ins K ht h.1 h.2)

def sg_sFibreValid : Sig := { args := [.s (.e (.var 0))], pre := [], tin := [.sl, .row .i64 4], gin := [(0, 1, 4)], res := .c (.s (.e (.var 0))), post := [], tout := [.bool], gout := [] }
def cl_sFibreValid : List (Nat × Sig) := [(16, sg_l5Direction), (17, sg_l6In)]
theorem run_sFibreValid : run ⟨Try.prog, glb, cl_sFibreValid⟩ [(0, ⟨[(3, .int .i64)], []⟩)] Try.f9 sg_sFibreValid (Try.f9.body.getD .skip) = tr_sFibreValid := by kernel_rfl
theorem om_sFibreValid : ΩOK ⟨Try.prog, glb, cl_sFibreValid⟩ (specsOf Fs_sFibreValid) := (ΩOK_cons cong_l5Direction Try.call16 (ΩOK_cons cong_l6In Try.call17 ΩOK_nil))
theorem con_sFibreValid : ConOK Try.prog glb 9 sg_sFibreValid F_sFibreValid.spec := conOK_of om_sFibreValid mixed Try.func9 (by kernel_rfl) run_sFibreValid (fun ins K ht h => sat_sFibreValid Try.prog ins K ht h.1 h.2)

def sg_eqSection : Sig := { args := [.ag [.e (.var 0), .e (.var 1), .e (.var 2), .e (.var 3)], .ag [.e (.var 4), .e (.var 5), .e (.var 6), .e (.var 7)]], pre := [], tin := [.int .i64, .int .i64, .int .i64, .int .i64, .int .i64, .int .i64, .int .i64, .int .i64], gin := [], res := .c (.s (.e (.var 0))), post := [], tout := [.bool], gout := [] }
def cl_eqSection : List (Nat × Sig) := []
theorem run_eqSection : run ⟨Try.prog, glb, cl_eqSection⟩ [] Try.f18 sg_eqSection (Try.f18.body.getD .skip) = tr_eqSection := by kernel_rfl
theorem om_eqSection : ΩOK ⟨Try.prog, glb, cl_eqSection⟩ (specsOf Fs_eqSection) := ΩOK_nil
theorem con_eqSection : ConOK Try.prog glb 18 sg_eqSection F_eqSection.spec := conOK_tree om_eqSection mixed Try.func18 (by kernel_rfl) run_eqSection
theorem cong_eqSection : ConOK Try.prog glb 18 sg_eqSection G_eqSection.spec := con_eqSection.as as_eqSection

def sg_eqSectionS : Sig := { args := [.s (.e (.var 0)), .s (.e (.var 1))], pre := [], tin := [.sl, .sl, .row .i64 4, .row .i64 4], gin := [(0, 2, 4), (1, 3, 4)], res := .c (.s (.e (.var 0))), post := [], tout := [.bool], gout := [] }
def cl_eqSectionS : List (Nat × Sig) := [(18, sg_eqSection)]
theorem run_eqSectionS : run ⟨Try.prog, glb, cl_eqSectionS⟩ [(0, ⟨[(5, .int .i64)], []⟩)] Try.f12 sg_eqSectionS (Try.f12.body.getD .skip) = tr_eqSectionS := by kernel_rfl
theorem om_eqSectionS : ΩOK ⟨Try.prog, glb, cl_eqSectionS⟩ (specsOf Fs_eqSectionS) := (ΩOK_cons cong_eqSection Try.call18 ΩOK_nil)
theorem con_eqSectionS : ConOK Try.prog glb 12 sg_eqSectionS F_eqSectionS.spec := conOK_of om_eqSectionS mixed Try.func12 (by kernel_rfl) run_eqSectionS (fun ins K ht h => sat_eqSectionS Try.prog ins K ht h.1 h.2)

def sg_toS : Sig := { args := [.s (.e (.var 0))], pre := [], tin := [.sl, .row .i64 4], gin := [(0, 1, 4)], res := .c (.s (.e (.var 0))), post := [], tout := [.sl, .row .i64 4], gout := [(0, 1, 4)] }
theorem run0_toSection : run ⟨Try.prog, [], []⟩ [] Try.f6 sgFour (Try.f6.body.getD .skip) = tr_toSection := by kernel_rfl
theorem con0_toSection : ConOK Try.prog [] 6 sgFour F_toSection.spec := conOK_tree ΩOK_nil mixed Try.func6 (by kernel_rfl) run0_toSection
theorem toS_elem (x0 x1 x2 x3 : Int) (h0 : IntKind.i64.wrap x0 = x0) (h1 : IntKind.i64.wrap x1 = x1) (h2 : IntKind.i64.wrap x2 = x2) (h3 : IntKind.i64.wrap x3 = x3) (w : World) : Calls Try.prog 6 #[.agg #[.int .i64 x0, .int .i64 x1, .int .i64 x2, .int .i64 x3]] w fun e w' => e = .returned (.agg #[.int .i64 x0, .int .i64 x1, .int .i64 x2, .int .i64 x3]) ∧ RowKit.Below w.heap.size w w' :=
  calls_four con0_toSection (fun _ => okT_free (fun F hF => by cases hF) _ _ (by kernel_rfl)) (by kernel_rfl) x0 x1 x2 x3 h0 h1 h2 h3 w
theorem toS_make (w : World) (len : Nat) (hl : len ≤ 1048576) : (Instr.makeSlice 32 (.int .i64 len) (.int .i64 len)).run Try.prog w = .ok (.slice (some ⟨w.heap.size, 0, none⟩) len len) (w.alloc (.cells (madeCells #[.int .i64 0, .int .i64 0, .int .i64 0, .int .i64 0] (len * 4)) 26)) := by
  obtain ⟨i, hi⟩ := Option.isSome_iff_exists.1 (by kernel_rfl : (Try.prog.info? 26).isSome = true)
  have hz : i.zero = some (.agg #[.int .i64 0, .int .i64 0, .int .i64 0, .int .i64 0]) := by
    have h : (Try.prog.info? 26).bind (·.zero) = some (.agg #[.int .i64 0, .int .i64 0, .int .i64 0, .int .i64 0]) := by kernel_rfl
    rw [hi] at h; exact h
  have hs : i.size = 4 := by
    have h : (Try.prog.info? 26).map (·.size) = some 4 := by kernel_rfl
    rw [hi] at h; exact Option.some.inj h
  have hb : i.bytes = 32 := by
    have h : (Try.prog.info? 26).map (·.bytes) = some 32 := by kernel_rfl
    rw [hi] at h; exact Option.some.inj h
  have h := run_makeSlice w 32 26 i (.agg #[.int .i64 0, .int .i64 0, .int .i64 0, .int .i64 0]) Try.underlying32 hi hz .i64 .i64 (len : Int) (len : Int) (by omega) (Int.le_refl _) (by rw [hs, Int.toNat_natCast]; omega) (by rw [hb]; omega) (by omega)
  rw [hs] at h
  simp only [Int.toNat_natCast] at h
  exact h
set_option maxHeartbeats 800000 in
set_option maxRecDepth 1000000 in
theorem toS_walk (b off len cap : Nat) (zs : Nat → Int) (w : World) (hl : len ≤ 1048576) (hb : b < w.heap.size) (h64 : ∀ j, j < 4 * len → IntKind.i64.wrap (zs j) = zs j)
    (hc : ∀ j, j < 4 * len → w.cell? ⟨b, off + j, none⟩ = some (.int .i64 (zs j))) :
    Calls Try.prog 10 #[.slice (some ⟨b, off, none⟩) len cap] w fun e w' =>
      e = .returned (.slice (some ⟨w.heap.size, 0, none⟩) len len) ∧ RowKit.Below w.heap.size w w' ∧ w.heap.size < w'.heap.size ∧ ∀ j, j < 4 * len → w'.cell? ⟨w.heap.size, j, none⟩ = some (.int .i64 (zs j)) := by
  have hmk := toS_make w len hl
  go_enter Try.func10, Try.ntmps10
  go_wp2
  go_loopw [4] (fun i wr => ∃ k : Nat, k ≤ len ∧ i = .int .i64 k ∧ RowKit.Below w.heap.size w wr ∧ w.heap.size < wr.heap.size ∧ wr.there w.heap.size 0 (4 * len) ∧ ∀ j, j < 4 * k → wr.cell? ⟨w.heap.size, j, none⟩ = some (.int .i64 (zs j)))
    (fun i _ => len - (match i with | .int _ n => n.toNat | _ => 0))
  case atStart =>
    refine ⟨0, Nat.zero_le _, rfl, (RowKit.Below.refl _ _).alloc (Nat.le_refl _) _, by show _ < (w.heap.push _).size; rw [Array.size_push]; omega, fun j hj => ⟨?_, ?_⟩, fun j hj => by omega⟩
    · rw [Nat.zero_add, World.cell?_alloc_at _ _ _ _ rfl, Array.getElem?_eq_getElem (by rw [size_madeCells]; omega)]; rfl
    · exact World.frozen?_alloc_at _ _ _ _ rfl
  case round =>
    obtain ⟨k, hk, rfl, hB, hs, hth, heq⟩ := hrel
    by_cases hlt : k < len
    · have c0 : wr.cell? ⟨b, off + k * 4, none⟩ = some (.int .i64 (zs (4 * k))) := by rw [hB.cell hb, show off + k * 4 = off + 4 * k by omega]; exact hc _ (by omega)
      have c1 : wr.cell? ⟨b, off + k * 4 + 1, none⟩ = some (.int .i64 (zs (4 * k + 1))) := by rw [hB.cell hb, show off + k * 4 + 1 = off + (4 * k + 1) by omega]; exact hc _ (by omega)
      have c2 : wr.cell? ⟨b, off + k * 4 + 2, none⟩ = some (.int .i64 (zs (4 * k + 2))) := by rw [hB.cell hb, show off + k * 4 + 2 = off + (4 * k + 2) by omega]; exact hc _ (by omega)
      have c3 : wr.cell? ⟨b, off + k * 4 + 3, none⟩ = some (.int .i64 (zs (4 * k + 3))) := by rw [hB.cell hb, show off + k * 4 + 3 = off + (4 * k + 3) by omega]; exact hc _ (by omega)
      go_wp2_with fail
      refine (toS_elem _ _ _ _ (h64 _ (by omega)) (h64 _ (by omega)) (h64 _ (by omega)) (h64 _ (by omega)) _).mono ?_
      rintro e w1 ⟨rfl, hB1⟩
      have hth1 : w1.there w.heap.size 0 (4 * len) := fun j hj => by
        rw [hB1.cell hs, hB1.frozen hs]
        exact hth j hj
      have hth2 : w1.there w.heap.size (k * 4) 4 := fun j hj => by
        have := hth1 (k * 4 + j) (by omega)
        rwa [Nat.zero_add] at this
      have hone := all_oneCell_toArray (cs := [.int .i64 (zs (4 * k)), .int .i64 (zs (4 * k + 1)), .int .i64 (zs (4 * k + 2)), .int .i64 (zs (4 * k + 3))]) (by intro v hv; simp only [List.mem_cons, List.not_mem_nil, or_false] at hv; rcases hv with rfl | rfl | rfl | rfl <;> rfl)
      go_wp2_with (first | (refine wpList_store_mid rfl 26 (.tmp 21) (.tmp 20) rfl w.heap.size (k * 4) _ rfl rfl hth2 (by kernel_rfl) hone ?_) | fail)
      go_roundw
      case rel =>
        refine ⟨k + 1, by omega, by simp, ?_, ?_, ?_, ?_⟩
        · exact (((hB.trans (hB1.mono (by omega))).setCell (p := ⟨w.heap.size, k * 4, none⟩) (Nat.le_refl _) _).setCell (p := ⟨w.heap.size, k * 4 + 1, none⟩) (Nat.le_refl _) _).setCell (p := ⟨w.heap.size, k * 4 + 2, none⟩) (Nat.le_refl _) _ |>.setCell (p := ⟨w.heap.size, k * 4 + 3, none⟩) (Nat.le_refl _) _
        · have := hB1.size; simp [World.setCells, World.setCell]; omega
        · exact World.there_setCells hth1 _ _ _
        · intro j hj
          by_cases h : j < 4 * k
          · rw [World.cell?_setCells_out _ _ _ _ _ (fun _ _ => Or.inl (by show j < k * 4; omega)), hB1.cell hs]
            exact heq j h
          · have := World.rangeAt_setCells_same w1 w.heap.size (k * 4) [.int .i64 (zs (4 * k)), .int .i64 (zs (4 * k + 1)), .int .i64 (zs (4 * k + 2)), .int .i64 (zs (4 * k + 3))] hth2 (j - k * 4)
            rw [show k * 4 + (j - k * 4) = j by omega] at this
            obtain ⟨i, hi, rfl⟩ : ∃ i, i < 4 ∧ j = 4 * k + i := ⟨j - 4 * k, by omega, by omega⟩
            rw [show 4 * k + i - k * 4 = i by omega] at this
            match i, hi with
            | 0, _ => exact this _ rfl
            | 1, _ => exact this _ rfl
            | 2, _ => exact this _ rfl
            | 3, _ => exact this _ rfl
      case measure => simp; omega
    · have hk2 : k = len := by omega
      subst hk2
      go_wp2
      go_ret
      exact ⟨rfl, hB, hs, heq⟩
set_option maxHeartbeats 800000 in
set_option maxRecDepth 1000000 in
theorem toS_nil (cap : Nat) (w : World) : Calls Try.prog 10 #[.slice none 0 cap] w fun e w' => e = .returned (.slice (some ⟨w.heap.size, 0, none⟩) 0 0) ∧ RowKit.Below w.heap.size w w' ∧ w.heap.size < w'.heap.size := by
  have hmk : (Instr.makeSlice 32 (.int .i64 0) (.int .i64 0)).run Try.prog w = .ok (.slice (some ⟨w.heap.size, 0, none⟩) 0 0) (w.alloc (.cells (madeCells #[.int .i64 0, .int .i64 0, .int .i64 0, .int .i64 0] (0 * 4)) 26)) := toS_make w 0 (by omega)
  go_enter Try.func10, Try.ntmps10
  go_wp2
  refine wp_loop_rounds 1 ?_
  rw [rounds_succ]
  go_wp2
  go_ret
  exact ⟨rfl, (RowKit.Below.refl _ _).alloc (Nat.le_refl _) _, by show _ < (w.heap.push _).size; rw [Array.size_push]; omega⟩
theorem con_toS : ConOK Try.prog glb 10 sg_toS SP_toS := conOK_copy toS_walk toS_nil


def sg_FnExactFibreValid : Sig := { args := [.s (.e (.var 0))], pre := [], tin := [.sl, .row .i64 4], gin := [(0, 1, 4)], res := .c (.s (.e (.var 0))), post := [], tout := [.bool], gout := [] }
def cl_FnExactFibreValid : List (Nat × Sig) := [(8, sg_szS), (10, sg_toS), (9, sg_sFibreValid), (11, sg_iFibreValid), (12, sg_eqSectionS)]
theorem run_FnExactFibreValid : run ⟨Try.prog, glb, cl_FnExactFibreValid⟩ [] Try.f4 sg_FnExactFibreValid (Try.f4.body.getD .skip) = tr_FnExactFibreValid := by kernel_rfl
theorem om_FnExactFibreValid : ΩOK ⟨Try.prog, glb, cl_FnExactFibreValid⟩ Ss_FnExactFibreValid := (ΩOK_consS con_szS Try.call8 (ΩOK_consS con_toS Try.call10 (ΩOK_consS con_sFibreValid Try.call9 (ΩOK_consS con_iFibreValid Try.call11 (ΩOK_consS con_eqSectionS Try.call12 ΩOK_nilS)))))
theorem con_FnExactFibreValid : ConOK Try.prog glb 4 sg_FnExactFibreValid F_FnExactFibreValid.spec := conOK_of om_FnExactFibreValid mixed Try.func4 (by kernel_rfl) run_FnExactFibreValid (fun ins K ht h => sat_FnExactFibreValid Try.prog ins K ht h.1 h.2)

end Go.Proofs.Ytacmlnomehkjcaa

/- The contracts of the functions. -/
import Derived.Test.YtacmlnomehkjcaaChecked
import Derived.Test.YtacmlnomehkjcaaRkA
namespace Go.Proofs.Ytacmlnomehkjcaa
open Go Go.Sx
set_option maxRecDepth 100000

def glb : List (Nat × List Sc) := []
theorem mixed : Try.prog.follows .mixedOrders = true := by kernel_rfl

def sg_size : Sig := { args := [.s (.e (.var 0))], pre := [], tin := [.int .i64], gin := [], res := .c (.s (.e (.var 0))), post := [], tout := [.int .i64], gout := [] }
def cl_size : List (Nat × Sig) := []
theorem run_size : run ⟨Try.prog, glb, cl_size⟩ [] Try.f25 sg_size (Try.f25.body.getD .skip) = tr_size := by kernel_rfl
theorem om_size : ΩOK ⟨Try.prog, glb, cl_size⟩ (specsOf Fs_size) := ΩOK_nil
theorem con_size : ConOK Try.prog glb 25 sg_size F_size.spec := conOK_tree om_size mixed Try.func25 (by kernel_rfl) run_size

def sg_within : Sig := { args := [.s (.e (.var 0)), .s (.e (.var 1)), .s (.e (.var 2))], pre := [], tin := [.int .i64, .int .i64, .int .i64], gin := [], res := .c (.s (.e (.var 0))), post := [], tout := [.bool], gout := [] }
def cl_within : List (Nat × Sig) := []
theorem run_within : run ⟨Try.prog, glb, cl_within⟩ [] Try.f20 sg_within (Try.f20.body.getD .skip) = tr_within := by kernel_rfl
theorem om_within : ΩOK ⟨Try.prog, glb, cl_within⟩ (specsOf Fs_within) := ΩOK_nil
theorem con_within : ConOK Try.prog glb 20 sg_within F_within.spec := conOK_tree om_within mixed Try.func20 (by kernel_rfl) run_within
theorem cong_within : ConOK Try.prog glb 20 sg_within G_within.spec := con_within.as as_within

def sg_l6In : Sig := { args := [.s (.e (.var 0)), .s (.e (.var 1)), .s (.e (.var 2))], pre := [], tin := [.int .i64, .int .i64, .int .i64], gin := [], res := .c (.s (.e (.var 0))), post := [], tout := [.bool], gout := [] }
def cl_l6In : List (Nat × Sig) := []
theorem run_l6In : run ⟨Try.prog, glb, cl_l6In⟩ [] Try.f17 sg_l6In (Try.f17.body.getD .skip) = tr_l6In := by kernel_rfl
theorem om_l6In : ΩOK ⟨Try.prog, glb, cl_l6In⟩ (specsOf Fs_l6In) := ΩOK_nil
theorem con_l6In : ConOK Try.prog glb 17 sg_l6In F_l6In.spec := conOK_tree om_l6In mixed Try.func17 (by kernel_rfl) run_l6In
theorem cong_l6In : ConOK Try.prog glb 17 sg_l6In G_l6In.spec := con_l6In.as as_l6In

def sg_l2In : Sig := { args := [.s (.e (.var 0))], pre := [], tin := [.int .i64], gin := [], res := .c (.s (.e (.var 0))), post := [], tout := [.bool], gout := [] }
def cl_l2In : List (Nat × Sig) := [(17, sg_l6In)]
theorem run_l2In : run ⟨Try.prog, glb, cl_l2In⟩ [] Try.f27 sg_l2In (Try.f27.body.getD .skip) = tr_l2In := by kernel_rfl
theorem om_l2In : ΩOK ⟨Try.prog, glb, cl_l2In⟩ (specsOf Fs_l2In) := (ΩOK_cons cong_l6In Try.call17 ΩOK_nil)
theorem con_l2In : ConOK Try.prog glb 27 sg_l2In F_l2In.spec := conOK_tree om_l2In mixed Try.func27 (by kernel_rfl) run_l2In
theorem cong_l2In : ConOK Try.prog glb 27 sg_l2In G_l2In.spec := con_l2In.as as_l2In

def sg_divisor : Sig := { args := [.s (.e (.var 0)), .s (.e (.var 1))], pre := [], tin := [.int .i64, .int .i64], gin := [], res := .c (.s (.e (.var 0))), post := [], tout := [.int .i64], gout := [] }
def cl_divisor : List (Nat × Sig) := []
theorem run_divisor : run ⟨Try.prog, glb, cl_divisor⟩ [(0, ⟨[(0, .int .i64), (1, .int .i64)], []⟩)] Try.f24 sg_divisor (Try.f24.body.getD .skip) = tr_divisor := by kernel_rfl
theorem om_divisor : ΩOK ⟨Try.prog, glb, cl_divisor⟩ (specsOf Fs_divisor) := ΩOK_nil
theorem con_divisor : ConOK Try.prog glb 24 sg_divisor F_divisor.spec := conOK_of om_divisor mixed Try.func24 (by kernel_rfl) run_divisor (fun ins K ht h => sat_divisor Try.prog ins K ht h.1 h.2)

def sg_l2Gcd : Sig := { args := [.s (.e (.var 0)), .s (.e (.var 1))], pre := [], tin := [.int .i64, .int .i64], gin := [], res := .c (.s (.e (.var 0))), post := [], tout := [.int .i64], gout := [] }
def cl_l2Gcd : List (Nat × Sig) := []
theorem run_l2Gcd : run ⟨Try.prog, glb, cl_l2Gcd⟩ [(0, ⟨[(0, .int .i64), (1, .int .i64)], []⟩)] Try.f13 sg_l2Gcd (Try.f13.body.getD .skip) = tr_l2Gcd := by kernel_rfl
theorem om_l2Gcd : ΩOK ⟨Try.prog, glb, cl_l2Gcd⟩ (specsOf Fs_l2Gcd) := ΩOK_nil
theorem con_l2Gcd : ConOK Try.prog glb 13 sg_l2Gcd F_l2Gcd.spec := conOK_of om_l2Gcd mixed Try.func13 (by kernel_rfl) run_l2Gcd (fun ins K ht h => sat_l2Gcd Try.prog ins K ht h.1 h.2)

def sg_lowest : Sig := { args := [.s (.e (.var 0)), .s (.e (.var 1)), .s (.e (.var 2))], pre := [], tin := [.int .i64, .int .i64, .int .i64], gin := [], res := .tu [.ag [.e (.var 0), .e (.var 1), .e (.var 2)], .s (.e (.var 3))], post := [], tout := [.int .i64, .int .i64, .int .i64, .bool], gout := [] }
def cl_lowest : List (Nat × Sig) := [(25, sg_size), (24, sg_divisor), (20, sg_within)]
theorem run_lowest : run ⟨Try.prog, glb, cl_lowest⟩ [] Try.f22 sg_lowest (Try.f22.body.getD .skip) = tr_lowest := by kernel_rfl
theorem om_lowest : ΩOK ⟨Try.prog, glb, cl_lowest⟩ (specsOf Fs_lowest) := (ΩOK_cons con_size Try.call25 (ΩOK_cons con_divisor Try.call24 (ΩOK_cons cong_within Try.call20 ΩOK_nil)))
theorem con_lowest : ConOK Try.prog glb 22 sg_lowest F_lowest.spec := conOK_tree om_lowest mixed Try.func22 (by kernel_rfl) run_lowest
theorem cong_lowest : ConOK Try.prog glb 22 sg_lowest G_lowest.spec := con_lowest.as as_lowest

def sg_sFracValid : Sig := { args := [.ag [.e (.var 0), .e (.var 1), .e (.var 2)]], pre := [], tin := [.int .i64, .int .i64, .int .i64], gin := [], res := .c (.s (.e (.var 0))), post := [], tout := [.bool], gout := [] }
def cl_sFracValid : List (Nat × Sig) := [(27, sg_l2In), (17, sg_l6In), (13, sg_l2Gcd)]
theorem run_sFracValid : run ⟨Try.prog, glb, cl_sFracValid⟩ [] Try.f26 sg_sFracValid (Try.f26.body.getD .skip) = tr_sFracValid := by kernel_rfl
theorem om_sFracValid : ΩOK ⟨Try.prog, glb, cl_sFracValid⟩ (specsOf Fs_sFracValid) := (ΩOK_cons cong_l2In Try.call27 (ΩOK_cons cong_l6In Try.call17 (ΩOK_cons con_l2Gcd Try.call13 ΩOK_nil)))
theorem con_sFracValid : ConOK Try.prog glb 26 sg_sFracValid F_sFracValid.spec := conOK_tree om_sFracValid mixed Try.func26 (by kernel_rfl) run_sFracValid
theorem cong_sFracValid : ConOK Try.prog glb 26 sg_sFracValid G_sFracValid.spec := con_sFracValid.as as_sFracValid

def sg_l2Low : Sig := { args := [.s (.e (.var 0)), .s (.e (.var 1)), .s (.e (.var 2))], pre := [], tin := [.int .i64, .int .i64, .int .i64], gin := [], res := .tu [.ag [.e (.var 0), .e (.var 1), .e (.var 2)], .s (.e (.var 3))], post := [], tout := [.int .i64, .int .i64, .int .i64, .bool], gout := [] }
def cl_l2Low : List (Nat × Sig) := [(13, sg_l2Gcd), (26, sg_sFracValid)]
theorem run_l2Low : run ⟨Try.prog, glb, cl_l2Low⟩ [] Try.f23 sg_l2Low (Try.f23.body.getD .skip) = tr_l2Low := by kernel_rfl
theorem om_l2Low : ΩOK ⟨Try.prog, glb, cl_l2Low⟩ (specsOf Fs_l2Low) := (ΩOK_cons con_l2Gcd Try.call13 (ΩOK_cons cong_sFracValid Try.call26 ΩOK_nil))
theorem con_l2Low : ConOK Try.prog glb 23 sg_l2Low F_l2Low.spec := conOK_tree om_l2Low mixed Try.func23 (by kernel_rfl) run_l2Low
theorem cong_l2Low : ConOK Try.prog glb 23 sg_l2Low G_l2Low.spec := con_l2Low.as as_l2Low

def sg_sFracMake : Sig := { args := [.s (.e (.var 0)), .s (.e (.var 1)), .s (.e (.var 2))], pre := [], tin := [.int .i64, .int .i64, .int .i64], gin := [], res := .tu [.ag [.e (.var 0), .e (.var 1), .e (.var 2)], .s (.e (.var 3))], post := [], tout := [.int .i64, .int .i64, .int .i64, .bool], gout := [] }
def cl_sFracMake : List (Nat × Sig) := [(17, sg_l6In), (23, sg_l2Low)]
theorem run_sFracMake : run ⟨Try.prog, glb, cl_sFracMake⟩ [] Try.f21 sg_sFracMake (Try.f21.body.getD .skip) = tr_sFracMake := by kernel_rfl
theorem om_sFracMake : ΩOK ⟨Try.prog, glb, cl_sFracMake⟩ (specsOf Fs_sFracMake) := (ΩOK_cons cong_l6In Try.call17 (ΩOK_cons cong_l2Low Try.call23 ΩOK_nil))
theorem con_sFracMake : ConOK Try.prog glb 21 sg_sFracMake F_sFracMake.spec := conOK_tree om_sFracMake mixed Try.func21 (by kernel_rfl) run_sFracMake
theorem cong_sFracMake : ConOK Try.prog glb 21 sg_sFracMake G_sFracMake.spec := con_sFracMake.as as_sFracMake

def sg_direction : Sig := { args := [.s (.e (.var 0)), .s (.e (.var 1))], pre := [], tin := [.int .i64, .int .i64], gin := [], res := .tu [.ag [.e (.var 0), .e (.var 1), .e (.var 2)], .ag [.e (.var 3), .e (.var 4), .e (.var 5)], .s (.e (.var 6))], post := [], tout := [.int .i64, .int .i64, .int .i64, .int .i64, .int .i64, .int .i64, .bool], gout := [] }
def cl_direction : List (Nat × Sig) := [(20, sg_within), (22, sg_lowest)]
theorem run_direction : run ⟨Try.prog, glb, cl_direction⟩ [] Try.f19 sg_direction (Try.f19.body.getD .skip) = tr_direction := by kernel_rfl
theorem om_direction : ΩOK ⟨Try.prog, glb, cl_direction⟩ (specsOf Fs_direction) := (ΩOK_cons cong_within Try.call20 (ΩOK_cons cong_lowest Try.call22 ΩOK_nil))
theorem con_direction : ConOK Try.prog glb 19 sg_direction F_direction.spec := conOK_tree om_direction mixed Try.func19 (by kernel_rfl) run_direction
theorem cong_direction : ConOK Try.prog glb 19 sg_direction G_direction.spec := con_direction.as as_direction

def sg_l5Direction : Sig := { args := [.s (.e (.var 0)), .s (.e (.var 1))], pre := [], tin := [.int .i64, .int .i64], gin := [], res := .tu [.ag [.e (.var 0), .e (.var 1), .e (.var 2)], .ag [.e (.var 3), .e (.var 4), .e (.var 5)], .s (.e (.var 6))], post := [], tout := [.int .i64, .int .i64, .int .i64, .int .i64, .int .i64, .int .i64, .bool], gout := [] }
def cl_l5Direction : List (Nat × Sig) := [(17, sg_l6In), (21, sg_sFracMake)]
theorem run_l5Direction : run ⟨Try.prog, glb, cl_l5Direction⟩ [] Try.f16 sg_l5Direction (Try.f16.body.getD .skip) = tr_l5Direction := by kernel_rfl
theorem om_l5Direction : ΩOK ⟨Try.prog, glb, cl_l5Direction⟩ (specsOf Fs_l5Direction) := (ΩOK_cons cong_l6In Try.call17 (ΩOK_cons cong_sFracMake Try.call21 ΩOK_nil))
theorem con_l5Direction : ConOK Try.prog glb 16 sg_l5Direction F_l5Direction.spec := conOK_tree om_l5Direction mixed Try.func16 (by kernel_rfl) run_l5Direction
theorem cong_l5Direction : ConOK Try.prog glb 16 sg_l5Direction G_l5Direction.spec := con_l5Direction.as as_l5Direction

def sg_sectionOk : Sig := { args := [.ag [.e (.var 0), .e (.var 1), .e (.var 2), .e (.var 3)]], pre := [], tin := [.int .i64, .int .i64, .int .i64, .int .i64], gin := [], res := .c (.s (.e (.var 0))), post := [], tout := [.bool], gout := [] }
def cl_sectionOk : List (Nat × Sig) := [(19, sg_direction), (20, sg_within)]
theorem run_sectionOk : run ⟨Try.prog, glb, cl_sectionOk⟩ [] Try.f14 sg_sectionOk (Try.f14.body.getD .skip) = tr_sectionOk := by kernel_rfl
theorem om_sectionOk : ΩOK ⟨Try.prog, glb, cl_sectionOk⟩ (specsOf Fs_sectionOk) := (ΩOK_cons cong_direction Try.call19 (ΩOK_cons cong_within Try.call20 ΩOK_nil))
theorem con_sectionOk : ConOK Try.prog glb 14 sg_sectionOk F_sectionOk.spec := conOK_tree om_sectionOk mixed Try.func14 (by kernel_rfl) run_sectionOk
theorem cong_sectionOk : ConOK Try.prog glb 14 sg_sectionOk G_sectionOk.spec := con_sectionOk.as as_sectionOk

def sg_beat : Sig := { args := [.s (.e (.var 0))], pre := [], tin := [.int .i64], gin := [], res := .c (.s (.e (.var 0))), post := [], tout := [.int .i64], gout := [] }
def cl_beat : List (Nat × Sig) := []
theorem run_beat : run ⟨Try.prog, glb, cl_beat⟩ [] Try.f15 sg_beat (Try.f15.body.getD .skip) = tr_beat := by kernel_rfl
theorem om_beat : ΩOK ⟨Try.prog, glb, cl_beat⟩ (specsOf Fs_beat) := ΩOK_nil
theorem con_beat : ConOK Try.prog glb 15 sg_beat F_beat.spec := conOK_tree om_beat mixed Try.func15 (by kernel_rfl) run_beat
theorem cong_beat : ConOK Try.prog glb 15 sg_beat G_beat.spec := con_beat.as as_beat

def sg_iFibreBeat : Sig := { args := [.ag [.e (.var 0), .e (.var 1), .e (.var 2), .e (.var 3)]], pre := [], tin := [.int .i64, .int .i64, .int .i64, .int .i64], gin := [], res := .tu [.s (.e (.var 0)), .s (.e (.var 1))], post := [], tout := [.int .i64, .bool], gout := [] }
def cl_iFibreBeat : List (Nat × Sig) := [(14, sg_sectionOk), (15, sg_beat)]
theorem run_iFibreBeat : run ⟨Try.prog, glb, cl_iFibreBeat⟩ [] Try.f7 sg_iFibreBeat (Try.f7.body.getD .skip) = tr_iFibreBeat := by kernel_rfl
theorem om_iFibreBeat : ΩOK ⟨Try.prog, glb, cl_iFibreBeat⟩ (specsOf Fs_iFibreBeat) := (ΩOK_cons cong_sectionOk Try.call14 (ΩOK_cons cong_beat Try.call15 ΩOK_nil))
theorem con_iFibreBeat : ConOK Try.prog glb 7 sg_iFibreBeat F_iFibreBeat.spec := conOK_tree om_iFibreBeat mixed Try.func7 (by kernel_rfl) run_iFibreBeat
theorem cong_iFibreBeat : ConOK Try.prog glb 7 sg_iFibreBeat G_iFibreBeat.spec := con_iFibreBeat.as as_iFibreBeat

def sg_sFibreValid1 : Sig := { args := [.s (.sl (.own 0) 0 1 1)], pre := [⟨[.e (.var 0), .e (.var 1), .e (.var 2), .e (.var 3)], 26⟩], tin := [.int .i64, .int .i64, .int .i64, .int .i64], gin := [], res := .c (.s (.e (.var 0))), post := [⟨[.e (.var 1), .e (.var 2), .e (.var 3), .e (.var 4)], 26⟩], tout := [.bool, .int .i64, .int .i64, .int .i64, .int .i64], gout := [] }
def cl_sFibreValid1 : List (Nat × Sig) := [(16, sg_l5Direction), (17, sg_l6In)]
theorem run_sFibreValid1 : run ⟨Try.prog, glb, cl_sFibreValid1⟩ [] Try.f9 sg_sFibreValid1 (Try.f9.body.getD .skip) = tr_sFibreValid1 := by kernel_rfl
theorem om_sFibreValid1 : ΩOK ⟨Try.prog, glb, cl_sFibreValid1⟩ (specsOf Fs_sFibreValid1) := (ΩOK_cons cong_l5Direction Try.call16 (ΩOK_cons cong_l6In Try.call17 ΩOK_nil))
theorem con_sFibreValid1 : ConOK Try.prog glb 9 sg_sFibreValid1 F_sFibreValid1.spec := conOK_tree om_sFibreValid1 mixed Try.func9 (by kernel_rfl) run_sFibreValid1
theorem cong_sFibreValid1 : ConOK Try.prog glb 9 sg_sFibreValid1 G_sFibreValid1.spec := con_sFibreValid1.as as_sFibreValid1

def sg_sFibreBeat : Sig := { args := [.ag [.e (.var 0), .e (.var 1), .e (.var 2), .e (.var 3)]], pre := [], tin := [.int .i64, .int .i64, .int .i64, .int .i64], gin := [], res := .tu [.s (.e (.var 0)), .s (.e (.var 1))], post := [], tout := [.int .i64, .bool], gout := [] }
def cl_sFibreBeat : List (Nat × Sig) := [(9, sg_sFibreValid1), (13, sg_l2Gcd)]
theorem run_sFibreBeat : run ⟨Try.prog, glb, cl_sFibreBeat⟩ [] Try.f5 sg_sFibreBeat (Try.f5.body.getD .skip) = tr_sFibreBeat := by kernel_rfl
theorem om_sFibreBeat : ΩOK ⟨Try.prog, glb, cl_sFibreBeat⟩ (specsOf Fs_sFibreBeat) := (ΩOK_cons cong_sFibreValid1 Try.call9 (ΩOK_cons con_l2Gcd Try.call13 ΩOK_nil))
theorem con_sFibreBeat : ConOK Try.prog glb 5 sg_sFibreBeat F_sFibreBeat.spec := conOK_tree om_sFibreBeat mixed Try.func5 (by kernel_rfl) run_sFibreBeat
theorem cong_sFibreBeat : ConOK Try.prog glb 5 sg_sFibreBeat G_sFibreBeat.spec := con_sFibreBeat.as as_sFibreBeat

def sg_toSection : Sig := { args := [.ag [.e (.var 0), .e (.var 1), .e (.var 2), .e (.var 3)]], pre := [], tin := [.int .i64, .int .i64, .int .i64, .int .i64], gin := [], res := .c (.ag [.e (.var 0), .e (.var 1), .e (.var 2), .e (.var 3)]), post := [], tout := [.int .i64, .int .i64, .int .i64, .int .i64], gout := [] }
def cl_toSection : List (Nat × Sig) := []
theorem run_toSection : run ⟨Try.prog, glb, cl_toSection⟩ [] Try.f6 sg_toSection (Try.f6.body.getD .skip) = tr_toSection := by kernel_rfl
theorem om_toSection : ΩOK ⟨Try.prog, glb, cl_toSection⟩ (specsOf Fs_toSection) := ΩOK_nil
theorem con_toSection : ConOK Try.prog glb 6 sg_toSection F_toSection.spec := conOK_tree om_toSection mixed Try.func6 (by kernel_rfl) run_toSection

def sg_FnExactFibreBeat : Sig := { args := [.ag [.e (.var 0), .e (.var 1), .e (.var 2), .e (.var 3)]], pre := [], tin := [.int .i64, .int .i64, .int .i64, .int .i64], gin := [], res := .c (.s (.e (.var 0))), post := [], tout := [.bool], gout := [] }
def cl_FnExactFibreBeat : List (Nat × Sig) := [(6, sg_toSection), (5, sg_sFibreBeat), (7, sg_iFibreBeat)]
theorem run_FnExactFibreBeat : run ⟨Try.prog, glb, cl_FnExactFibreBeat⟩ [] Try.f3 sg_FnExactFibreBeat (Try.f3.body.getD .skip) = tr_FnExactFibreBeat := by kernel_rfl
theorem om_FnExactFibreBeat : ΩOK ⟨Try.prog, glb, cl_FnExactFibreBeat⟩ (specsOf Fs_FnExactFibreBeat) := (ΩOK_cons con_toSection Try.call6 (ΩOK_cons cong_sFibreBeat Try.call5 (ΩOK_cons cong_iFibreBeat Try.call7 ΩOK_nil)))
theorem con_FnExactFibreBeat : ConOK Try.prog glb 3 sg_FnExactFibreBeat F_FnExactFibreBeat.spec := conOK_tree om_FnExactFibreBeat mixed Try.func3 (by kernel_rfl) run_FnExactFibreBeat

end Go.Proofs.Ytacmlnomehkjcaa

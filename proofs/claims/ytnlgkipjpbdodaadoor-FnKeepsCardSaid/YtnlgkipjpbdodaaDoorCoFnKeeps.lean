/- The contracts of the functions. -/
import Derived.Test.YtnlgkipjpbdodaaDoorChecked
import Derived.Test.YtnlgkipjpbdodaaDoorRkAFnKeeps
import Derived.WalkKit
import Derived.Laws.OwnMore
import Derived.Deep.MidRow
namespace Go.Proofs.YtnlgkipjpbdodaaDoor
open Go Go.Sx Go.RowKit
set_option maxRecDepth 100000

def glb : List (Nat × List Sc) := [(0, [.e (.int .i64 (0)), .e (.int .i64 (0)), .e (.int .i64 (1))]), (1, [.e (.int .i64 (1)), .e (.int .i64 (0)), .e (.int .i64 (1))])]
theorem mixed : Tryd.prog.follows .mixedOrders = true := by kernel_rfl

def sg_size : Sig := { args := [.s (.e (.var 0))], pre := [], tin := [.int .i64], gin := [], res := .c (.s (.e (.var 0))), post := [], tout := [.int .i64], gout := [] }
def cl_size : List (Nat × Sig) := []
theorem run_size : run ⟨Tryd.prog, glb, cl_size⟩ [] Tryd.f107 sg_size (Tryd.f107.body.getD .skip) = tr_size := by kernel_rfl
theorem om_size : ΩOK ⟨Tryd.prog, glb, cl_size⟩ (specsOf Fs_size) := ΩOK_nil
theorem con_size : ConOK Tryd.prog glb 107 sg_size F_size.spec := conOK_tree om_size mixed Tryd.func107 (by kernel_rfl) run_size

def sg_within : Sig := { args := [.s (.e (.var 0)), .s (.e (.var 1)), .s (.e (.var 2))], pre := [], tin := [.int .i64, .int .i64, .int .i64], gin := [], res := .c (.s (.e (.var 0))), post := [], tout := [.bool], gout := [] }
def cl_within : List (Nat × Sig) := []
theorem run_within : run ⟨Tryd.prog, glb, cl_within⟩ [] Tryd.f75 sg_within (Tryd.f75.body.getD .skip) = tr_within := by kernel_rfl
theorem om_within : ΩOK ⟨Tryd.prog, glb, cl_within⟩ (specsOf Fs_within) := ΩOK_nil
theorem con_within : ConOK Tryd.prog glb 75 sg_within F_within.spec := conOK_tree om_within mixed Tryd.func75 (by kernel_rfl) run_within
theorem cong_within : ConOK Tryd.prog glb 75 sg_within G_within.spec := con_within.as as_within

def sg_l6In : Sig := { args := [.s (.e (.var 0)), .s (.e (.var 1)), .s (.e (.var 2))], pre := [], tin := [.int .i64, .int .i64, .int .i64], gin := [], res := .c (.s (.e (.var 0))), post := [], tout := [.bool], gout := [] }
def cl_l6In : List (Nat × Sig) := []
theorem run_l6In : run ⟨Tryd.prog, glb, cl_l6In⟩ [] Tryd.f89 sg_l6In (Tryd.f89.body.getD .skip) = tr_l6In := by kernel_rfl
theorem om_l6In : ΩOK ⟨Tryd.prog, glb, cl_l6In⟩ (specsOf Fs_l6In) := ΩOK_nil
theorem con_l6In : ConOK Tryd.prog glb 89 sg_l6In F_l6In.spec := conOK_tree om_l6In mixed Tryd.func89 (by kernel_rfl) run_l6In
theorem cong_l6In : ConOK Tryd.prog glb 89 sg_l6In G_l6In.spec := con_l6In.as as_l6In

def sg_l2In : Sig := { args := [.s (.e (.var 0))], pre := [], tin := [.int .i64], gin := [], res := .c (.s (.e (.var 0))), post := [], tout := [.bool], gout := [] }
def cl_l2In : List (Nat × Sig) := [(89, sg_l6In)]
theorem run_l2In : run ⟨Tryd.prog, glb, cl_l2In⟩ [] Tryd.f88 sg_l2In (Tryd.f88.body.getD .skip) = tr_l2In := by kernel_rfl
theorem om_l2In : ΩOK ⟨Tryd.prog, glb, cl_l2In⟩ (specsOf Fs_l2In) := (ΩOK_cons cong_l6In Tryd.call89 ΩOK_nil)
theorem con_l2In : ConOK Tryd.prog glb 88 sg_l2In F_l2In.spec := conOK_tree om_l2In mixed Tryd.func88 (by kernel_rfl) run_l2In
theorem cong_l2In : ConOK Tryd.prog glb 88 sg_l2In G_l2In.spec := con_l2In.as as_l2In

def sg_divisor : Sig := { args := [.s (.e (.var 0)), .s (.e (.var 1))], pre := [], tin := [.int .i64, .int .i64], gin := [], res := .c (.s (.e (.var 0))), post := [], tout := [.int .i64], gout := [] }
def cl_divisor : List (Nat × Sig) := []
theorem run_divisor : run ⟨Tryd.prog, glb, cl_divisor⟩ [(0, ⟨[(0, .int .i64), (1, .int .i64)], [], none⟩)] Tryd.f106 sg_divisor (Tryd.f106.body.getD .skip) = tr_divisor := by kernel_rfl
theorem om_divisor : ΩOK ⟨Tryd.prog, glb, cl_divisor⟩ (specsOf Fs_divisor) := ΩOK_nil
theorem con_divisor : ConOK Tryd.prog glb 106 sg_divisor F_divisor.spec := conOK_of om_divisor mixed Tryd.func106 (by kernel_rfl) run_divisor (fun ins K ht h => sat_divisor Tryd.prog ins K ht h.1 h.2)

def sg_l2Gcd : Sig := { args := [.s (.e (.var 0)), .s (.e (.var 1))], pre := [], tin := [.int .i64, .int .i64], gin := [], res := .c (.s (.e (.var 0))), post := [], tout := [.int .i64], gout := [] }
def cl_l2Gcd : List (Nat × Sig) := []
theorem run_l2Gcd : run ⟨Tryd.prog, glb, cl_l2Gcd⟩ [(0, ⟨[(0, .int .i64), (1, .int .i64)], [], none⟩)] Tryd.f90 sg_l2Gcd (Tryd.f90.body.getD .skip) = tr_l2Gcd := by kernel_rfl
theorem om_l2Gcd : ΩOK ⟨Tryd.prog, glb, cl_l2Gcd⟩ (specsOf Fs_l2Gcd) := ΩOK_nil
theorem con_l2Gcd : ConOK Tryd.prog glb 90 sg_l2Gcd F_l2Gcd.spec := conOK_of om_l2Gcd mixed Tryd.func90 (by kernel_rfl) run_l2Gcd (fun ins K ht h => sat_l2Gcd Tryd.prog ins K ht h.1 h.2)

def sg_lowest : Sig := { args := [.s (.e (.var 0)), .s (.e (.var 1)), .s (.e (.var 2))], pre := [], tin := [.int .i64, .int .i64, .int .i64], gin := [], res := .tu [.ag [.e (.var 0), .e (.var 1), .e (.var 2)], .s (.e (.var 3))], post := [], tout := [.int .i64, .int .i64, .int .i64, .bool], gout := [] }
def cl_lowest : List (Nat × Sig) := [(107, sg_size), (106, sg_divisor), (75, sg_within)]
theorem run_lowest : run ⟨Tryd.prog, glb, cl_lowest⟩ [] Tryd.f79 sg_lowest (Tryd.f79.body.getD .skip) = tr_lowest := by kernel_rfl
theorem om_lowest : ΩOK ⟨Tryd.prog, glb, cl_lowest⟩ (specsOf Fs_lowest) := (ΩOK_cons con_size Tryd.call107 (ΩOK_cons con_divisor Tryd.call106 (ΩOK_cons cong_within Tryd.call75 ΩOK_nil)))
theorem con_lowest : ConOK Tryd.prog glb 79 sg_lowest F_lowest.spec := conOK_tree om_lowest mixed Tryd.func79 (by kernel_rfl) run_lowest
theorem cong_lowest : ConOK Tryd.prog glb 79 sg_lowest G_lowest.spec := con_lowest.as as_lowest

def sg_sFracValid : Sig := { args := [.ag [.e (.var 0), .e (.var 1), .e (.var 2)]], pre := [], tin := [.int .i64, .int .i64, .int .i64], gin := [], res := .c (.s (.e (.var 0))), post := [], tout := [.bool], gout := [] }
def cl_sFracValid : List (Nat × Sig) := [(88, sg_l2In), (89, sg_l6In), (90, sg_l2Gcd)]
theorem run_sFracValid : run ⟨Tryd.prog, glb, cl_sFracValid⟩ [] Tryd.f47 sg_sFracValid (Tryd.f47.body.getD .skip) = tr_sFracValid := by kernel_rfl
theorem om_sFracValid : ΩOK ⟨Tryd.prog, glb, cl_sFracValid⟩ (specsOf Fs_sFracValid) := (ΩOK_cons cong_l2In Tryd.call88 (ΩOK_cons cong_l6In Tryd.call89 (ΩOK_cons con_l2Gcd Tryd.call90 ΩOK_nil)))
theorem con_sFracValid : ConOK Tryd.prog glb 47 sg_sFracValid F_sFracValid.spec := conOK_tree om_sFracValid mixed Tryd.func47 (by kernel_rfl) run_sFracValid
theorem cong_sFracValid : ConOK Tryd.prog glb 47 sg_sFracValid G_sFracValid.spec := con_sFracValid.as as_sFracValid

def sg_l2Low : Sig := { args := [.s (.e (.var 0)), .s (.e (.var 1)), .s (.e (.var 2))], pre := [], tin := [.int .i64, .int .i64, .int .i64], gin := [], res := .tu [.ag [.e (.var 0), .e (.var 1), .e (.var 2)], .s (.e (.var 3))], post := [], tout := [.int .i64, .int .i64, .int .i64, .bool], gout := [] }
def cl_l2Low : List (Nat × Sig) := [(90, sg_l2Gcd), (47, sg_sFracValid)]
theorem run_l2Low : run ⟨Tryd.prog, glb, cl_l2Low⟩ [] Tryd.f86 sg_l2Low (Tryd.f86.body.getD .skip) = tr_l2Low := by kernel_rfl
theorem om_l2Low : ΩOK ⟨Tryd.prog, glb, cl_l2Low⟩ (specsOf Fs_l2Low) := (ΩOK_cons con_l2Gcd Tryd.call90 (ΩOK_cons cong_sFracValid Tryd.call47 ΩOK_nil))
theorem con_l2Low : ConOK Tryd.prog glb 86 sg_l2Low F_l2Low.spec := conOK_tree om_l2Low mixed Tryd.func86 (by kernel_rfl) run_l2Low
theorem cong_l2Low : ConOK Tryd.prog glb 86 sg_l2Low G_l2Low.spec := con_l2Low.as as_l2Low

def sg_sFracMake : Sig := { args := [.s (.e (.var 0)), .s (.e (.var 1)), .s (.e (.var 2))], pre := [], tin := [.int .i64, .int .i64, .int .i64], gin := [], res := .tu [.ag [.e (.var 0), .e (.var 1), .e (.var 2)], .s (.e (.var 3))], post := [], tout := [.int .i64, .int .i64, .int .i64, .bool], gout := [] }
def cl_sFracMake : List (Nat × Sig) := [(89, sg_l6In), (86, sg_l2Low)]
theorem run_sFracMake : run ⟨Tryd.prog, glb, cl_sFracMake⟩ [] Tryd.f114 sg_sFracMake (Tryd.f114.body.getD .skip) = tr_sFracMake := by kernel_rfl
theorem om_sFracMake : ΩOK ⟨Tryd.prog, glb, cl_sFracMake⟩ (specsOf Fs_sFracMake) := (ΩOK_cons cong_l6In Tryd.call89 (ΩOK_cons cong_l2Low Tryd.call86 ΩOK_nil))
theorem con_sFracMake : ConOK Tryd.prog glb 114 sg_sFracMake F_sFracMake.spec := conOK_tree om_sFracMake mixed Tryd.func114 (by kernel_rfl) run_sFracMake
theorem cong_sFracMake : ConOK Tryd.prog glb 114 sg_sFracMake G_sFracMake.spec := con_sFracMake.as as_sFracMake

def sg_l5Direction : Sig := { args := [.s (.e (.var 0)), .s (.e (.var 1))], pre := [], tin := [.int .i64, .int .i64], gin := [], res := .tu [.ag [.e (.var 0), .e (.var 1), .e (.var 2)], .ag [.e (.var 3), .e (.var 4), .e (.var 5)], .s (.e (.var 6))], post := [], tout := [.int .i64, .int .i64, .int .i64, .int .i64, .int .i64, .int .i64, .bool], gout := [] }
def cl_l5Direction : List (Nat × Sig) := [(89, sg_l6In), (114, sg_sFracMake)]
theorem run_l5Direction : run ⟨Tryd.prog, glb, cl_l5Direction⟩ [] Tryd.f115 sg_l5Direction (Tryd.f115.body.getD .skip) = tr_l5Direction := by kernel_rfl
theorem om_l5Direction : ΩOK ⟨Tryd.prog, glb, cl_l5Direction⟩ (specsOf Fs_l5Direction) := (ΩOK_cons cong_l6In Tryd.call89 (ΩOK_cons cong_sFracMake Tryd.call114 ΩOK_nil))
theorem con_l5Direction : ConOK Tryd.prog glb 115 sg_l5Direction F_l5Direction.spec := conOK_tree om_l5Direction mixed Tryd.func115 (by kernel_rfl) run_l5Direction
theorem cong_l5Direction : ConOK Tryd.prog glb 115 sg_l5Direction G_l5Direction.spec := con_l5Direction.as as_l5Direction

def sg_iFracValid : Sig := { args := [.ag [.e (.var 0), .e (.var 1), .e (.var 2)]], pre := [], tin := [.int .i64, .int .i64, .int .i64], gin := [], res := .c (.s (.e (.var 0))), post := [], tout := [.bool], gout := [] }
def cl_iFracValid : List (Nat × Sig) := [(75, sg_within), (106, sg_divisor), (107, sg_size)]
theorem run_iFracValid : run ⟨Tryd.prog, glb, cl_iFracValid⟩ [] Tryd.f87 sg_iFracValid (Tryd.f87.body.getD .skip) = tr_iFracValid := by kernel_rfl
theorem om_iFracValid : ΩOK ⟨Tryd.prog, glb, cl_iFracValid⟩ (specsOf Fs_iFracValid) := (ΩOK_cons cong_within Tryd.call75 (ΩOK_cons con_divisor Tryd.call106 (ΩOK_cons con_size Tryd.call107 ΩOK_nil)))
theorem con_iFracValid : ConOK Tryd.prog glb 87 sg_iFracValid F_iFracValid.spec := conOK_tree om_iFracValid mixed Tryd.func87 (by kernel_rfl) run_iFracValid
theorem cong_iFracValid : ConOK Tryd.prog glb 87 sg_iFracValid G_iFracValid.spec := con_iFracValid.as as_iFracValid

def sg_realOk : Sig := { args := [.ag [.e (.var 0), .e (.var 1), .e (.var 2)]], pre := [], tin := [.int .i64, .int .i64, .int .i64], gin := [], res := .c (.s (.e (.var 0))), post := [], tout := [.bool], gout := [] }
def cl_realOk : List (Nat × Sig) := [(87, sg_iFracValid)]
theorem run_realOk : run ⟨Tryd.prog, glb, cl_realOk⟩ [] Tryd.f45 sg_realOk (Tryd.f45.body.getD .skip) = tr_realOk := by kernel_rfl
theorem om_realOk : ΩOK ⟨Tryd.prog, glb, cl_realOk⟩ (specsOf Fs_realOk) := (ΩOK_cons cong_iFracValid Tryd.call87 ΩOK_nil)
theorem con_realOk : ConOK Tryd.prog glb 45 sg_realOk F_realOk.spec := conOK_tree om_realOk mixed Tryd.func45 (by kernel_rfl) run_realOk
theorem cong_realOk : ConOK Tryd.prog glb 45 sg_realOk G_realOk.spec := con_realOk.as as_realOk

def sg_iFracAdd : Sig := { args := [.ag [.e (.var 0), .e (.var 1), .e (.var 2)], .ag [.e (.var 3), .e (.var 4), .e (.var 5)]], pre := [], tin := [.int .i64, .int .i64, .int .i64, .int .i64, .int .i64, .int .i64], gin := [], res := .tu [.ag [.e (.var 0), .e (.var 1), .e (.var 2)], .s (.e (.var 3))], post := [], tout := [.int .i64, .int .i64, .int .i64, .bool], gout := [] }
def cl_iFracAdd : List (Nat × Sig) := [(87, sg_iFracValid), (79, sg_lowest)]
theorem run_iFracAdd : run ⟨Tryd.prog, glb, cl_iFracAdd⟩ [] Tryd.f95 sg_iFracAdd (Tryd.f95.body.getD .skip) = tr_iFracAdd := by kernel_rfl
theorem om_iFracAdd : ΩOK ⟨Tryd.prog, glb, cl_iFracAdd⟩ (specsOf Fs_iFracAdd) := (ΩOK_cons cong_iFracValid Tryd.call87 (ΩOK_cons cong_lowest Tryd.call79 ΩOK_nil))
theorem con_iFracAdd : ConOK Tryd.prog glb 95 sg_iFracAdd F_iFracAdd.spec := conOK_tree om_iFracAdd mixed Tryd.func95 (by kernel_rfl) run_iFracAdd
theorem cong_iFracAdd : ConOK Tryd.prog glb 95 sg_iFracAdd G_iFracAdd.spec := con_iFracAdd.as as_iFracAdd

def sg_iFracTimes : Sig := { args := [.ag [.e (.var 0), .e (.var 1), .e (.var 2)], .ag [.e (.var 3), .e (.var 4), .e (.var 5)]], pre := [], tin := [.int .i64, .int .i64, .int .i64, .int .i64, .int .i64, .int .i64], gin := [], res := .tu [.ag [.e (.var 0), .e (.var 1), .e (.var 2)], .s (.e (.var 3))], post := [], tout := [.int .i64, .int .i64, .int .i64, .bool], gout := [] }
def cl_iFracTimes : List (Nat × Sig) := [(87, sg_iFracValid), (79, sg_lowest)]
theorem run_iFracTimes : run ⟨Tryd.prog, glb, cl_iFracTimes⟩ [] Tryd.f93 sg_iFracTimes (Tryd.f93.body.getD .skip) = tr_iFracTimes := by kernel_rfl
theorem om_iFracTimes : ΩOK ⟨Tryd.prog, glb, cl_iFracTimes⟩ (specsOf Fs_iFracTimes) := (ΩOK_cons cong_iFracValid Tryd.call87 (ΩOK_cons cong_lowest Tryd.call79 ΩOK_nil))
theorem con_iFracTimes : ConOK Tryd.prog glb 93 sg_iFracTimes F_iFracTimes.spec := conOK_tree om_iFracTimes mixed Tryd.func93 (by kernel_rfl) run_iFracTimes
theorem cong_iFracTimes : ConOK Tryd.prog glb 93 sg_iFracTimes G_iFracTimes.spec := con_iFracTimes.as as_iFracTimes

def sg_l2Sum : Sig := { args := [.ag [.e (.var 0), .e (.var 1), .e (.var 2)], .s (.e (.var 3)), .ag [.e (.var 4), .e (.var 5), .e (.var 6)]], pre := [], tin := [.int .i64, .int .i64, .int .i64, .int .i64, .int .i64, .int .i64, .int .i64], gin := [], res := .tu [.ag [.e (.var 0), .e (.var 1), .e (.var 2)], .s (.e (.var 3))], post := [], tout := [.int .i64, .int .i64, .int .i64, .bool], gout := [] }
def cl_l2Sum : List (Nat × Sig) := [(47, sg_sFracValid), (86, sg_l2Low)]
theorem run_l2Sum : run ⟨Tryd.prog, glb, cl_l2Sum⟩ [] Tryd.f113 sg_l2Sum (Tryd.f113.body.getD .skip) = tr_l2Sum := by kernel_rfl
theorem om_l2Sum : ΩOK ⟨Tryd.prog, glb, cl_l2Sum⟩ (specsOf Fs_l2Sum) := (ΩOK_cons cong_sFracValid Tryd.call47 (ΩOK_cons cong_l2Low Tryd.call86 ΩOK_nil))
theorem con_l2Sum : ConOK Tryd.prog glb 113 sg_l2Sum F_l2Sum.spec := conOK_tree om_l2Sum mixed Tryd.func113 (by kernel_rfl) run_l2Sum
theorem cong_l2Sum : ConOK Tryd.prog glb 113 sg_l2Sum G_l2Sum.spec := con_l2Sum.as as_l2Sum

def sg_sFracAdd : Sig := { args := [.ag [.e (.var 0), .e (.var 1), .e (.var 2)], .ag [.e (.var 3), .e (.var 4), .e (.var 5)]], pre := [], tin := [.int .i64, .int .i64, .int .i64, .int .i64, .int .i64, .int .i64], gin := [], res := .tu [.ag [.e (.var 0), .e (.var 1), .e (.var 2)], .s (.e (.var 3))], post := [], tout := [.int .i64, .int .i64, .int .i64, .bool], gout := [] }
def cl_sFracAdd : List (Nat × Sig) := [(113, sg_l2Sum)]
theorem run_sFracAdd : run ⟨Tryd.prog, glb, cl_sFracAdd⟩ [] Tryd.f122 sg_sFracAdd (Tryd.f122.body.getD .skip) = tr_sFracAdd := by kernel_rfl
theorem om_sFracAdd : ΩOK ⟨Tryd.prog, glb, cl_sFracAdd⟩ (specsOf Fs_sFracAdd) := (ΩOK_cons cong_l2Sum Tryd.call113 ΩOK_nil)
theorem con_sFracAdd : ConOK Tryd.prog glb 122 sg_sFracAdd F_sFracAdd.spec := conOK_tree om_sFracAdd mixed Tryd.func122 (by kernel_rfl) run_sFracAdd
theorem cong_sFracAdd : ConOK Tryd.prog glb 122 sg_sFracAdd G_sFracAdd.spec := con_sFracAdd.as as_sFracAdd

def sg_sFracTimes : Sig := { args := [.ag [.e (.var 0), .e (.var 1), .e (.var 2)], .ag [.e (.var 3), .e (.var 4), .e (.var 5)]], pre := [], tin := [.int .i64, .int .i64, .int .i64, .int .i64, .int .i64, .int .i64], gin := [], res := .tu [.ag [.e (.var 0), .e (.var 1), .e (.var 2)], .s (.e (.var 3))], post := [], tout := [.int .i64, .int .i64, .int .i64, .bool], gout := [] }
def cl_sFracTimes : List (Nat × Sig) := [(47, sg_sFracValid), (86, sg_l2Low)]
theorem run_sFracTimes : run ⟨Tryd.prog, glb, cl_sFracTimes⟩ [] Tryd.f112 sg_sFracTimes (Tryd.f112.body.getD .skip) = tr_sFracTimes := by kernel_rfl
theorem om_sFracTimes : ΩOK ⟨Tryd.prog, glb, cl_sFracTimes⟩ (specsOf Fs_sFracTimes) := (ΩOK_cons cong_sFracValid Tryd.call47 (ΩOK_cons cong_l2Low Tryd.call86 ΩOK_nil))
theorem con_sFracTimes : ConOK Tryd.prog glb 112 sg_sFracTimes F_sFracTimes.spec := conOK_tree om_sFracTimes mixed Tryd.func112 (by kernel_rfl) run_sFracTimes
theorem cong_sFracTimes : ConOK Tryd.prog glb 112 sg_sFracTimes G_sFracTimes.spec := con_sFracTimes.as as_sFracTimes

def sg_keep : Sig := { args := [.s (.p (.own 0) 0), .ag [.e (.var 0), .e (.var 1), .e (.var 2)], .s (.e (.var 3))], pre := [⟨[.e (.var 4)], 84⟩], tin := [.int .i64, .int .i64, .int .i64, .bool, .bool], gin := [], res := .c (.ag [.e (.var 0), .e (.var 1), .e (.var 2)]), post := [⟨[.e (.var 3)], 84⟩], tout := [.int .i64, .int .i64, .int .i64, .bool], gout := [] }
def cl_keep : List (Nat × Sig) := []
theorem run_keep : run ⟨Tryd.prog, glb, cl_keep⟩ [] Tryd.f91 sg_keep (Tryd.f91.body.getD .skip) = tr_keep := by kernel_rfl
theorem om_keep : ΩOK ⟨Tryd.prog, glb, cl_keep⟩ (specsOf Fs_keep) := ΩOK_nil
theorem con_keep : ConOK Tryd.prog glb 91 sg_keep F_keep.spec := conOK_tree om_keep mixed Tryd.func91 (by kernel_rfl) run_keep

def sg_add : Sig := { args := [.s (.p (.own 0) 0), .ag [.e (.var 0), .e (.var 1), .e (.var 2)], .ag [.e (.var 3), .e (.var 4), .e (.var 5)]], pre := [⟨[.e (.var 6)], 84⟩], tin := [.int .i64, .int .i64, .int .i64, .int .i64, .int .i64, .int .i64, .bool], gin := [], res := .c (.ag [.e (.var 0), .e (.var 1), .e (.var 2)]), post := [⟨[.e (.var 3)], 84⟩], tout := [.int .i64, .int .i64, .int .i64, .bool], gout := [] }
def cl_add : List (Nat × Sig) := [(95, sg_iFracAdd), (91, sg_keep)]
theorem run_add : run ⟨Tryd.prog, glb, cl_add⟩ [] Tryd.f56 sg_add (Tryd.f56.body.getD .skip) = tr_add := by kernel_rfl
theorem om_add : ΩOK ⟨Tryd.prog, glb, cl_add⟩ (specsOf Fs_add) := (ΩOK_cons cong_iFracAdd Tryd.call95 (ΩOK_cons con_keep Tryd.call91 ΩOK_nil))
theorem con_add : ConOK Tryd.prog glb 56 sg_add F_add.spec := conOK_tree om_add mixed Tryd.func56 (by kernel_rfl) run_add
theorem cong_add : ConOK Tryd.prog glb 56 sg_add G_add.spec := con_add.as as_add

def sg_times : Sig := { args := [.s (.p (.own 0) 0), .ag [.e (.var 0), .e (.var 1), .e (.var 2)], .ag [.e (.var 3), .e (.var 4), .e (.var 5)]], pre := [⟨[.e (.var 6)], 84⟩], tin := [.int .i64, .int .i64, .int .i64, .int .i64, .int .i64, .int .i64, .bool], gin := [], res := .c (.ag [.e (.var 0), .e (.var 1), .e (.var 2)]), post := [⟨[.e (.var 3)], 84⟩], tout := [.int .i64, .int .i64, .int .i64, .bool], gout := [] }
def cl_times : List (Nat × Sig) := [(93, sg_iFracTimes), (91, sg_keep)]
theorem run_times : run ⟨Tryd.prog, glb, cl_times⟩ [] Tryd.f52 sg_times (Tryd.f52.body.getD .skip) = tr_times := by kernel_rfl
theorem om_times : ΩOK ⟨Tryd.prog, glb, cl_times⟩ (specsOf Fs_times) := (ΩOK_cons cong_iFracTimes Tryd.call93 (ΩOK_cons con_keep Tryd.call91 ΩOK_nil))
theorem con_times : ConOK Tryd.prog glb 52 sg_times F_times.spec := conOK_tree om_times mixed Tryd.func52 (by kernel_rfl) run_times
theorem cong_times : ConOK Tryd.prog glb 52 sg_times G_times.spec := con_times.as as_times

def sg_need : Sig := { args := [.s (.p (.own 0) 0), .s (.e (.var 0))], pre := [⟨[.e (.var 1)], 84⟩], tin := [.bool, .bool], gin := [], res := .c (.s (.p (.own 0) 0)), post := [⟨[.e (.var 0)], 84⟩], tout := [.bool], gout := [] }
def cl_need : List (Nat × Sig) := []
theorem run_need : run ⟨Tryd.prog, glb, cl_need⟩ [] Tryd.f49 sg_need (Tryd.f49.body.getD .skip) = tr_need := by kernel_rfl
theorem om_need : ΩOK ⟨Tryd.prog, glb, cl_need⟩ (specsOf Fs_need) := ΩOK_nil
theorem con_need : ConOK Tryd.prog glb 49 sg_need F_need.spec := conOK_tree om_need mixed Tryd.func49 (by kernel_rfl) run_need
theorem cong_need : ConOK Tryd.prog glb 49 sg_need G_need.spec := con_need.as as_need

def sg_l6tAdd : Sig := { args := [.s (.p (.own 0) 0), .ag [.e (.var 0), .e (.var 1), .e (.var 2)], .s (.e (.var 3)), .ag [.e (.var 4), .e (.var 5), .e (.var 6)]], pre := [⟨[.e (.var 7)], 97⟩], tin := [.int .i64, .int .i64, .int .i64, .int .i64, .int .i64, .int .i64, .int .i64, .bool], gin := [], res := .c (.ag [.e (.var 0), .e (.var 1), .e (.var 2)]), post := [⟨[.e (.var 3)], 97⟩], tout := [.int .i64, .int .i64, .int .i64, .bool], gout := [] }
def cl_l6tAdd : List (Nat × Sig) := [(113, sg_l2Sum)]
theorem run_l6tAdd : run ⟨Tryd.prog, glb, cl_l6tAdd⟩ [] Tryd.f98 sg_l6tAdd (Tryd.f98.body.getD .skip) = tr_l6tAdd := by kernel_rfl
theorem om_l6tAdd : ΩOK ⟨Tryd.prog, glb, cl_l6tAdd⟩ (specsOf Fs_l6tAdd) := (ΩOK_cons cong_l2Sum Tryd.call113 ΩOK_nil)
theorem con_l6tAdd : ConOK Tryd.prog glb 98 sg_l6tAdd F_l6tAdd.spec := conOK_tree om_l6tAdd mixed Tryd.func98 (by kernel_rfl) run_l6tAdd
theorem cong_l6tAdd : ConOK Tryd.prog glb 98 sg_l6tAdd G_l6tAdd.spec := con_l6tAdd.as as_l6tAdd

def sg_iTableValid : Sig := { args := [.ag [.e (.var 0), .e (.var 1), .e (.var 2), .e (.var 3), .e (.var 4), .e (.var 5), .e (.var 6), .e (.var 7), .e (.var 8), .e (.var 9), .e (.var 10), .e (.var 11), .e (.var 12), .e (.var 13), .e (.var 14), .e (.var 15), .e (.var 16), .e (.var 17), .e (.var 18), .e (.var 19), .e (.var 20), .e (.var 21), .e (.var 22), .e (.var 23), .e (.var 24), .e (.var 25), .e (.var 26), .e (.var 27), .e (.var 28), .e (.var 29), .e (.var 30), .e (.var 31), .e (.var 32), .e (.var 33), .e (.var 34), .e (.var 35), .e (.var 36), .e (.var 37), .e (.var 38), .e (.var 39), .e (.var 40), .e (.var 41), .e (.var 42), .e (.var 43), .e (.var 44), .e (.var 45), .e (.var 46), .e (.var 47)]], pre := [], tin := [.int .i64, .int .i64, .int .i64, .int .i64, .int .i64, .int .i64, .int .i64, .int .i64, .int .i64, .int .i64, .int .i64, .int .i64, .int .i64, .int .i64, .int .i64, .int .i64, .int .i64, .int .i64, .int .i64, .int .i64, .int .i64, .int .i64, .int .i64, .int .i64, .int .i64, .int .i64, .int .i64, .int .i64, .int .i64, .int .i64, .int .i64, .int .i64, .int .i64, .int .i64, .int .i64, .int .i64, .int .i64, .int .i64, .int .i64, .int .i64, .int .i64, .int .i64, .int .i64, .int .i64, .int .i64, .int .i64, .int .i64, .int .i64], gin := [], res := .c (.s (.e (.var 0))), post := [], tout := [.bool], gout := [] }
def cl_iTableValid : List (Nat × Sig) := [(45, sg_realOk)]
theorem run_iTableValid : run ⟨Tryd.prog, glb, cl_iTableValid⟩ [] Tryd.f29 sg_iTableValid (Tryd.f29.body.getD .skip) = tr_iTableValid := by kernel_rfl
theorem om_iTableValid : ΩOK ⟨Tryd.prog, glb, cl_iTableValid⟩ (specsOf Fs_iTableValid) := (ΩOK_cons cong_realOk Tryd.call45 ΩOK_nil)
theorem con_iTableValid : ConOK Tryd.prog glb 29 sg_iTableValid F_iTableValid.spec := conOK_tree om_iTableValid mixed Tryd.func29 (by kernel_rfl) run_iTableValid
theorem cong_iTableValid : ConOK Tryd.prog glb 29 sg_iTableValid G_iTableValid.spec := con_iTableValid.as as_iTableValid

def sg_sTableValid : Sig := { args := [.ag [.e (.var 0), .e (.var 1), .e (.var 2), .e (.var 3), .e (.var 4), .e (.var 5), .e (.var 6), .e (.var 7), .e (.var 8), .e (.var 9), .e (.var 10), .e (.var 11), .e (.var 12), .e (.var 13), .e (.var 14), .e (.var 15), .e (.var 16), .e (.var 17), .e (.var 18), .e (.var 19), .e (.var 20), .e (.var 21), .e (.var 22), .e (.var 23), .e (.var 24), .e (.var 25), .e (.var 26), .e (.var 27), .e (.var 28), .e (.var 29), .e (.var 30), .e (.var 31), .e (.var 32), .e (.var 33), .e (.var 34), .e (.var 35), .e (.var 36), .e (.var 37), .e (.var 38), .e (.var 39), .e (.var 40), .e (.var 41), .e (.var 42), .e (.var 43), .e (.var 44), .e (.var 45), .e (.var 46), .e (.var 47)]], pre := [], tin := [.int .i64, .int .i64, .int .i64, .int .i64, .int .i64, .int .i64, .int .i64, .int .i64, .int .i64, .int .i64, .int .i64, .int .i64, .int .i64, .int .i64, .int .i64, .int .i64, .int .i64, .int .i64, .int .i64, .int .i64, .int .i64, .int .i64, .int .i64, .int .i64, .int .i64, .int .i64, .int .i64, .int .i64, .int .i64, .int .i64, .int .i64, .int .i64, .int .i64, .int .i64, .int .i64, .int .i64, .int .i64, .int .i64, .int .i64, .int .i64, .int .i64, .int .i64, .int .i64, .int .i64, .int .i64, .int .i64, .int .i64, .int .i64], gin := [], res := .c (.s (.e (.var 0))), post := [], tout := [.bool], gout := [] }
def cl_sTableValid : List (Nat × Sig) := [(47, sg_sFracValid)]
theorem run_sTableValid : run ⟨Tryd.prog, glb, cl_sTableValid⟩ [] Tryd.f30 sg_sTableValid (Tryd.f30.body.getD .skip) = tr_sTableValid := by kernel_rfl
theorem om_sTableValid : ΩOK ⟨Tryd.prog, glb, cl_sTableValid⟩ (specsOf Fs_sTableValid) := (ΩOK_cons cong_sFracValid Tryd.call47 ΩOK_nil)
theorem con_sTableValid : ConOK Tryd.prog glb 30 sg_sTableValid F_sTableValid.spec := conOK_tree om_sTableValid mixed Tryd.func30 (by kernel_rfl) run_sTableValid
theorem cong_sTableValid : ConOK Tryd.prog glb 30 sg_sTableValid G_sTableValid.spec := con_sTableValid.as as_sTableValid

def sg_gotTable : Sig := { args := [.s (.p (.own 0) 0), .ag [.e (.var 0), .e (.var 1), .e (.var 2), .e (.var 3), .e (.var 4), .e (.var 5), .e (.var 6), .e (.var 7), .e (.var 8), .e (.var 9), .e (.var 10), .e (.var 11), .e (.var 12), .e (.var 13), .e (.var 14), .e (.var 15), .e (.var 16), .e (.var 17), .e (.var 18), .e (.var 19), .e (.var 20), .e (.var 21), .e (.var 22), .e (.var 23), .e (.var 24), .e (.var 25), .e (.var 26), .e (.var 27), .e (.var 28), .e (.var 29), .e (.var 30), .e (.var 31), .e (.var 32), .e (.var 33), .e (.var 34), .e (.var 35), .e (.var 36), .e (.var 37), .e (.var 38), .e (.var 39), .e (.var 40), .e (.var 41), .e (.var 42), .e (.var 43), .e (.var 44), .e (.var 45), .e (.var 46), .e (.var 47)]], pre := [⟨[.e (.var 48)], 84⟩], tin := [.int .i64, .int .i64, .int .i64, .int .i64, .int .i64, .int .i64, .int .i64, .int .i64, .int .i64, .int .i64, .int .i64, .int .i64, .int .i64, .int .i64, .int .i64, .int .i64, .int .i64, .int .i64, .int .i64, .int .i64, .int .i64, .int .i64, .int .i64, .int .i64, .int .i64, .int .i64, .int .i64, .int .i64, .int .i64, .int .i64, .int .i64, .int .i64, .int .i64, .int .i64, .int .i64, .int .i64, .int .i64, .int .i64, .int .i64, .int .i64, .int .i64, .int .i64, .int .i64, .int .i64, .int .i64, .int .i64, .int .i64, .int .i64, .bool], gin := [], res := .tu [.ag [.e (.var 0), .e (.var 1), .e (.var 2), .e (.var 3), .e (.var 4), .e (.var 5), .e (.var 6), .e (.var 7), .e (.var 8), .e (.var 9), .e (.var 10), .e (.var 11), .e (.var 12), .e (.var 13), .e (.var 14), .e (.var 15), .e (.var 16), .e (.var 17), .e (.var 18), .e (.var 19), .e (.var 20), .e (.var 21), .e (.var 22), .e (.var 23), .e (.var 24), .e (.var 25), .e (.var 26), .e (.var 27), .e (.var 28), .e (.var 29), .e (.var 30), .e (.var 31), .e (.var 32), .e (.var 33), .e (.var 34), .e (.var 35), .e (.var 36), .e (.var 37), .e (.var 38), .e (.var 39), .e (.var 40), .e (.var 41), .e (.var 42), .e (.var 43), .e (.var 44), .e (.var 45), .e (.var 46), .e (.var 47)], .s (.e (.var 48))], post := [⟨[.e (.var 49)], 84⟩], tout := [.int .i64, .int .i64, .int .i64, .int .i64, .int .i64, .int .i64, .int .i64, .int .i64, .int .i64, .int .i64, .int .i64, .int .i64, .int .i64, .int .i64, .int .i64, .int .i64, .int .i64, .int .i64, .int .i64, .int .i64, .int .i64, .int .i64, .int .i64, .int .i64, .int .i64, .int .i64, .int .i64, .int .i64, .int .i64, .int .i64, .int .i64, .int .i64, .int .i64, .int .i64, .int .i64, .int .i64, .int .i64, .int .i64, .int .i64, .int .i64, .int .i64, .int .i64, .int .i64, .int .i64, .int .i64, .int .i64, .int .i64, .int .i64, .bool, .bool], gout := [] }
def cl_gotTable : List (Nat × Sig) := []
theorem run_gotTable : run ⟨Tryd.prog, glb, cl_gotTable⟩ [] Tryd.f72 sg_gotTable (Tryd.f72.body.getD .skip) = tr_gotTable := by kernel_rfl
theorem om_gotTable : ΩOK ⟨Tryd.prog, glb, cl_gotTable⟩ (specsOf Fs_gotTable) := ΩOK_nil
theorem con_gotTable : ConOK Tryd.prog glb 72 sg_gotTable F_gotTable.spec := conOK_tree om_gotTable mixed Tryd.func72 (by kernel_rfl) run_gotTable
theorem cong_gotTable : ConOK Tryd.prog glb 72 sg_gotTable G_gotTable.spec := con_gotTable.as as_gotTable

def sg_l6tOf0 : Sig := { args := [.ag [.e (.var 0), .e (.var 1), .e (.var 2), .e (.var 3), .e (.var 4), .e (.var 5), .e (.var 6), .e (.var 7), .e (.var 8), .e (.var 9), .e (.var 10), .e (.var 11), .e (.var 12), .e (.var 13), .e (.var 14), .e (.var 15), .e (.var 16), .e (.var 17), .e (.var 18), .e (.var 19), .e (.var 20), .e (.var 21), .e (.var 22), .e (.var 23), .e (.var 24), .e (.var 25), .e (.var 26), .e (.var 27), .e (.var 28), .e (.var 29), .e (.var 30), .e (.var 31), .e (.var 32), .e (.var 33), .e (.var 34), .e (.var 35), .e (.var 36), .e (.var 37), .e (.var 38), .e (.var 39), .e (.var 40), .e (.var 41), .e (.var 42), .e (.var 43), .e (.var 44), .e (.var 45), .e (.var 46), .e (.var 47)], .s (.e (.int .i64 (0)))], pre := [], tin := [.int .i64, .int .i64, .int .i64, .int .i64, .int .i64, .int .i64, .int .i64, .int .i64, .int .i64, .int .i64, .int .i64, .int .i64, .int .i64, .int .i64, .int .i64, .int .i64, .int .i64, .int .i64, .int .i64, .int .i64, .int .i64, .int .i64, .int .i64, .int .i64, .int .i64, .int .i64, .int .i64, .int .i64, .int .i64, .int .i64, .int .i64, .int .i64, .int .i64, .int .i64, .int .i64, .int .i64, .int .i64, .int .i64, .int .i64, .int .i64, .int .i64, .int .i64, .int .i64, .int .i64, .int .i64, .int .i64, .int .i64, .int .i64], gin := [], res := .c (.ag [.e (.var 0), .e (.var 1), .e (.var 2), .e (.var 3), .e (.var 4), .e (.var 5), .e (.var 6), .e (.var 7), .e (.var 8), .e (.var 9), .e (.var 10), .e (.var 11)]), post := [], tout := [.int .i64, .int .i64, .int .i64, .int .i64, .int .i64, .int .i64, .int .i64, .int .i64, .int .i64, .int .i64, .int .i64, .int .i64], gout := [] }
def cl_l6tOf0 : List (Nat × Sig) := []
theorem run_l6tOf0 : run ⟨Tryd.prog, glb, cl_l6tOf0⟩ [] Tryd.f110 sg_l6tOf0 (Tryd.f110.body.getD .skip) = tr_l6tOf0 := by kernel_rfl
theorem om_l6tOf0 : ΩOK ⟨Tryd.prog, glb, cl_l6tOf0⟩ (specsOf Fs_l6tOf0) := ΩOK_nil
theorem con_l6tOf0 : ConOK Tryd.prog glb 110 sg_l6tOf0 F_l6tOf0.spec := conOK_tree om_l6tOf0 mixed Tryd.func110 (by kernel_rfl) run_l6tOf0

def sg_l6tOf1 : Sig := { args := [.ag [.e (.var 0), .e (.var 1), .e (.var 2), .e (.var 3), .e (.var 4), .e (.var 5), .e (.var 6), .e (.var 7), .e (.var 8), .e (.var 9), .e (.var 10), .e (.var 11), .e (.var 12), .e (.var 13), .e (.var 14), .e (.var 15), .e (.var 16), .e (.var 17), .e (.var 18), .e (.var 19), .e (.var 20), .e (.var 21), .e (.var 22), .e (.var 23), .e (.var 24), .e (.var 25), .e (.var 26), .e (.var 27), .e (.var 28), .e (.var 29), .e (.var 30), .e (.var 31), .e (.var 32), .e (.var 33), .e (.var 34), .e (.var 35), .e (.var 36), .e (.var 37), .e (.var 38), .e (.var 39), .e (.var 40), .e (.var 41), .e (.var 42), .e (.var 43), .e (.var 44), .e (.var 45), .e (.var 46), .e (.var 47)], .s (.e (.int .i64 (1)))], pre := [], tin := [.int .i64, .int .i64, .int .i64, .int .i64, .int .i64, .int .i64, .int .i64, .int .i64, .int .i64, .int .i64, .int .i64, .int .i64, .int .i64, .int .i64, .int .i64, .int .i64, .int .i64, .int .i64, .int .i64, .int .i64, .int .i64, .int .i64, .int .i64, .int .i64, .int .i64, .int .i64, .int .i64, .int .i64, .int .i64, .int .i64, .int .i64, .int .i64, .int .i64, .int .i64, .int .i64, .int .i64, .int .i64, .int .i64, .int .i64, .int .i64, .int .i64, .int .i64, .int .i64, .int .i64, .int .i64, .int .i64, .int .i64, .int .i64], gin := [], res := .c (.ag [.e (.var 0), .e (.var 1), .e (.var 2), .e (.var 3), .e (.var 4), .e (.var 5), .e (.var 6), .e (.var 7), .e (.var 8), .e (.var 9), .e (.var 10), .e (.var 11)]), post := [], tout := [.int .i64, .int .i64, .int .i64, .int .i64, .int .i64, .int .i64, .int .i64, .int .i64, .int .i64, .int .i64, .int .i64, .int .i64], gout := [] }
def cl_l6tOf1 : List (Nat × Sig) := []
theorem run_l6tOf1 : run ⟨Tryd.prog, glb, cl_l6tOf1⟩ [] Tryd.f110 sg_l6tOf1 (Tryd.f110.body.getD .skip) = tr_l6tOf1 := by kernel_rfl
theorem om_l6tOf1 : ΩOK ⟨Tryd.prog, glb, cl_l6tOf1⟩ (specsOf Fs_l6tOf1) := ΩOK_nil
theorem con_l6tOf1 : ConOK Tryd.prog glb 110 sg_l6tOf1 F_l6tOf1.spec := conOK_tree om_l6tOf1 mixed Tryd.func110 (by kernel_rfl) run_l6tOf1

def sg_l6tOf2 : Sig := { args := [.ag [.e (.var 0), .e (.var 1), .e (.var 2), .e (.var 3), .e (.var 4), .e (.var 5), .e (.var 6), .e (.var 7), .e (.var 8), .e (.var 9), .e (.var 10), .e (.var 11), .e (.var 12), .e (.var 13), .e (.var 14), .e (.var 15), .e (.var 16), .e (.var 17), .e (.var 18), .e (.var 19), .e (.var 20), .e (.var 21), .e (.var 22), .e (.var 23), .e (.var 24), .e (.var 25), .e (.var 26), .e (.var 27), .e (.var 28), .e (.var 29), .e (.var 30), .e (.var 31), .e (.var 32), .e (.var 33), .e (.var 34), .e (.var 35), .e (.var 36), .e (.var 37), .e (.var 38), .e (.var 39), .e (.var 40), .e (.var 41), .e (.var 42), .e (.var 43), .e (.var 44), .e (.var 45), .e (.var 46), .e (.var 47)], .s (.e (.int .i64 (2)))], pre := [], tin := [.int .i64, .int .i64, .int .i64, .int .i64, .int .i64, .int .i64, .int .i64, .int .i64, .int .i64, .int .i64, .int .i64, .int .i64, .int .i64, .int .i64, .int .i64, .int .i64, .int .i64, .int .i64, .int .i64, .int .i64, .int .i64, .int .i64, .int .i64, .int .i64, .int .i64, .int .i64, .int .i64, .int .i64, .int .i64, .int .i64, .int .i64, .int .i64, .int .i64, .int .i64, .int .i64, .int .i64, .int .i64, .int .i64, .int .i64, .int .i64, .int .i64, .int .i64, .int .i64, .int .i64, .int .i64, .int .i64, .int .i64, .int .i64], gin := [], res := .c (.ag [.e (.var 0), .e (.var 1), .e (.var 2), .e (.var 3), .e (.var 4), .e (.var 5), .e (.var 6), .e (.var 7), .e (.var 8), .e (.var 9), .e (.var 10), .e (.var 11)]), post := [], tout := [.int .i64, .int .i64, .int .i64, .int .i64, .int .i64, .int .i64, .int .i64, .int .i64, .int .i64, .int .i64, .int .i64, .int .i64], gout := [] }
def cl_l6tOf2 : List (Nat × Sig) := []
theorem run_l6tOf2 : run ⟨Tryd.prog, glb, cl_l6tOf2⟩ [] Tryd.f110 sg_l6tOf2 (Tryd.f110.body.getD .skip) = tr_l6tOf2 := by kernel_rfl
theorem om_l6tOf2 : ΩOK ⟨Tryd.prog, glb, cl_l6tOf2⟩ (specsOf Fs_l6tOf2) := ΩOK_nil
theorem con_l6tOf2 : ConOK Tryd.prog glb 110 sg_l6tOf2 F_l6tOf2.spec := conOK_tree om_l6tOf2 mixed Tryd.func110 (by kernel_rfl) run_l6tOf2

def sg_l6tOf3 : Sig := { args := [.ag [.e (.var 0), .e (.var 1), .e (.var 2), .e (.var 3), .e (.var 4), .e (.var 5), .e (.var 6), .e (.var 7), .e (.var 8), .e (.var 9), .e (.var 10), .e (.var 11), .e (.var 12), .e (.var 13), .e (.var 14), .e (.var 15), .e (.var 16), .e (.var 17), .e (.var 18), .e (.var 19), .e (.var 20), .e (.var 21), .e (.var 22), .e (.var 23), .e (.var 24), .e (.var 25), .e (.var 26), .e (.var 27), .e (.var 28), .e (.var 29), .e (.var 30), .e (.var 31), .e (.var 32), .e (.var 33), .e (.var 34), .e (.var 35), .e (.var 36), .e (.var 37), .e (.var 38), .e (.var 39), .e (.var 40), .e (.var 41), .e (.var 42), .e (.var 43), .e (.var 44), .e (.var 45), .e (.var 46), .e (.var 47)], .s (.e (.int .i64 (3)))], pre := [], tin := [.int .i64, .int .i64, .int .i64, .int .i64, .int .i64, .int .i64, .int .i64, .int .i64, .int .i64, .int .i64, .int .i64, .int .i64, .int .i64, .int .i64, .int .i64, .int .i64, .int .i64, .int .i64, .int .i64, .int .i64, .int .i64, .int .i64, .int .i64, .int .i64, .int .i64, .int .i64, .int .i64, .int .i64, .int .i64, .int .i64, .int .i64, .int .i64, .int .i64, .int .i64, .int .i64, .int .i64, .int .i64, .int .i64, .int .i64, .int .i64, .int .i64, .int .i64, .int .i64, .int .i64, .int .i64, .int .i64, .int .i64, .int .i64], gin := [], res := .c (.ag [.e (.var 0), .e (.var 1), .e (.var 2), .e (.var 3), .e (.var 4), .e (.var 5), .e (.var 6), .e (.var 7), .e (.var 8), .e (.var 9), .e (.var 10), .e (.var 11)]), post := [], tout := [.int .i64, .int .i64, .int .i64, .int .i64, .int .i64, .int .i64, .int .i64, .int .i64, .int .i64, .int .i64, .int .i64, .int .i64], gout := [] }
def cl_l6tOf3 : List (Nat × Sig) := []
theorem run_l6tOf3 : run ⟨Tryd.prog, glb, cl_l6tOf3⟩ [] Tryd.f110 sg_l6tOf3 (Tryd.f110.body.getD .skip) = tr_l6tOf3 := by kernel_rfl
theorem om_l6tOf3 : ΩOK ⟨Tryd.prog, glb, cl_l6tOf3⟩ (specsOf Fs_l6tOf3) := ΩOK_nil
theorem con_l6tOf3 : ConOK Tryd.prog glb 110 sg_l6tOf3 F_l6tOf3.spec := conOK_tree om_l6tOf3 mixed Tryd.func110 (by kernel_rfl) run_l6tOf3

def sg_l6tRow : Sig := { args := [.s (.p (.own 0) 0), .ag [.e (.var 0), .e (.var 1), .e (.var 2), .e (.var 3), .e (.var 4), .e (.var 5), .e (.var 6), .e (.var 7), .e (.var 8), .e (.var 9), .e (.var 10), .e (.var 11)], .ag [.e (.var 12), .e (.var 13), .e (.var 14), .e (.var 15), .e (.var 16), .e (.var 17), .e (.var 18), .e (.var 19), .e (.var 20), .e (.var 21), .e (.var 22), .e (.var 23)]], pre := [⟨[.e (.var 24)], 97⟩], tin := [.int .i64, .int .i64, .int .i64, .int .i64, .int .i64, .int .i64, .int .i64, .int .i64, .int .i64, .int .i64, .int .i64, .int .i64, .int .i64, .int .i64, .int .i64, .int .i64, .int .i64, .int .i64, .int .i64, .int .i64, .int .i64, .int .i64, .int .i64, .int .i64, .bool], gin := [], res := .c (.ag [.e (.var 0), .e (.var 1), .e (.var 2)]), post := [⟨[.e (.var 3)], 97⟩], tout := [.int .i64, .int .i64, .int .i64, .bool], gout := [] }
def cl_l6tRow : List (Nat × Sig) := [(112, sg_sFracTimes), (98, sg_l6tAdd)]
theorem run_l6tRow : run ⟨Tryd.prog, glb, cl_l6tRow⟩ [] Tryd.f109 sg_l6tRow (Tryd.f109.body.getD .skip) = tr_l6tRow := by kernel_rfl
theorem om_l6tRow : ΩOK ⟨Tryd.prog, glb, cl_l6tRow⟩ (specsOf Fs_l6tRow) := (ΩOK_cons cong_sFracTimes Tryd.call112 (ΩOK_cons cong_l6tAdd Tryd.call98 ΩOK_nil))
theorem con_l6tRow : ConOK Tryd.prog glb 109 sg_l6tRow F_l6tRow.spec := conOK_tree om_l6tRow mixed Tryd.func109 (by kernel_rfl) run_l6tRow
theorem cong_l6tRow : ConOK Tryd.prog glb 109 sg_l6tRow G_l6tRow.spec := con_l6tRow.as as_l6tRow

def sg_gotStokes : Sig := { args := [.s (.p (.own 0) 0), .ag [.e (.var 0), .e (.var 1), .e (.var 2), .e (.var 3), .e (.var 4), .e (.var 5), .e (.var 6), .e (.var 7), .e (.var 8), .e (.var 9), .e (.var 10), .e (.var 11)]], pre := [⟨[.e (.var 12)], 84⟩], tin := [.int .i64, .int .i64, .int .i64, .int .i64, .int .i64, .int .i64, .int .i64, .int .i64, .int .i64, .int .i64, .int .i64, .int .i64, .bool], gin := [], res := .tu [.ag [.e (.var 0), .e (.var 1), .e (.var 2), .e (.var 3), .e (.var 4), .e (.var 5), .e (.var 6), .e (.var 7), .e (.var 8), .e (.var 9), .e (.var 10), .e (.var 11)], .s (.e (.var 12))], post := [⟨[.e (.var 13)], 84⟩], tout := [.int .i64, .int .i64, .int .i64, .int .i64, .int .i64, .int .i64, .int .i64, .int .i64, .int .i64, .int .i64, .int .i64, .int .i64, .bool, .bool], gout := [] }
def cl_gotStokes : List (Nat × Sig) := []
theorem run_gotStokes : run ⟨Tryd.prog, glb, cl_gotStokes⟩ [] Tryd.f55 sg_gotStokes (Tryd.f55.body.getD .skip) = tr_gotStokes := by kernel_rfl
theorem om_gotStokes : ΩOK ⟨Tryd.prog, glb, cl_gotStokes⟩ (specsOf Fs_gotStokes) := ΩOK_nil
theorem con_gotStokes : ConOK Tryd.prog glb 55 sg_gotStokes F_gotStokes.spec := conOK_tree om_gotStokes mixed Tryd.func55 (by kernel_rfl) run_gotStokes
theorem cong_gotStokes : ConOK Tryd.prog glb 55 sg_gotStokes G_gotStokes.spec := con_gotStokes.as as_gotStokes

def sg_iStokesValid : Sig := { args := [.ag [.e (.var 0), .e (.var 1), .e (.var 2), .e (.var 3), .e (.var 4), .e (.var 5), .e (.var 6), .e (.var 7), .e (.var 8), .e (.var 9), .e (.var 10), .e (.var 11)]], pre := [], tin := [.int .i64, .int .i64, .int .i64, .int .i64, .int .i64, .int .i64, .int .i64, .int .i64, .int .i64, .int .i64, .int .i64, .int .i64], gin := [], res := .c (.s (.e (.var 0))), post := [], tout := [.bool], gout := [] }
def cl_iStokesValid : List (Nat × Sig) := [(45, sg_realOk)]
theorem run_iStokesValid : run ⟨Tryd.prog, glb, cl_iStokesValid⟩ [] Tryd.f60 sg_iStokesValid (Tryd.f60.body.getD .skip) = tr_iStokesValid := by kernel_rfl
theorem om_iStokesValid : ΩOK ⟨Tryd.prog, glb, cl_iStokesValid⟩ (specsOf Fs_iStokesValid) := (ΩOK_cons cong_realOk Tryd.call45 ΩOK_nil)
theorem con_iStokesValid : ConOK Tryd.prog glb 60 sg_iStokesValid F_iStokesValid.spec := conOK_tree om_iStokesValid mixed Tryd.func60 (by kernel_rfl) run_iStokesValid
theorem cong_iStokesValid : ConOK Tryd.prog glb 60 sg_iStokesValid G_iStokesValid.spec := con_iStokesValid.as as_iStokesValid

def sg_sStokesValid : Sig := { args := [.ag [.e (.var 0), .e (.var 1), .e (.var 2), .e (.var 3), .e (.var 4), .e (.var 5), .e (.var 6), .e (.var 7), .e (.var 8), .e (.var 9), .e (.var 10), .e (.var 11)]], pre := [], tin := [.int .i64, .int .i64, .int .i64, .int .i64, .int .i64, .int .i64, .int .i64, .int .i64, .int .i64, .int .i64, .int .i64, .int .i64], gin := [], res := .c (.s (.e (.var 0))), post := [], tout := [.bool], gout := [] }
def cl_sStokesValid : List (Nat × Sig) := [(47, sg_sFracValid)]
theorem run_sStokesValid : run ⟨Tryd.prog, glb, cl_sStokesValid⟩ [] Tryd.f108 sg_sStokesValid (Tryd.f108.body.getD .skip) = tr_sStokesValid := by kernel_rfl
theorem om_sStokesValid : ΩOK ⟨Tryd.prog, glb, cl_sStokesValid⟩ (specsOf Fs_sStokesValid) := (ΩOK_cons cong_sFracValid Tryd.call47 ΩOK_nil)
theorem con_sStokesValid : ConOK Tryd.prog glb 108 sg_sStokesValid F_sStokesValid.spec := conOK_tree om_sStokesValid mixed Tryd.func108 (by kernel_rfl) run_sStokesValid
theorem cong_sStokesValid : ConOK Tryd.prog glb 108 sg_sStokesValid G_sStokesValid.spec := con_sStokesValid.as as_sStokesValid

def sg_iTableApply : Sig := { args := [.ag [.e (.var 0), .e (.var 1), .e (.var 2), .e (.var 3), .e (.var 4), .e (.var 5), .e (.var 6), .e (.var 7), .e (.var 8), .e (.var 9), .e (.var 10), .e (.var 11), .e (.var 12), .e (.var 13), .e (.var 14), .e (.var 15), .e (.var 16), .e (.var 17), .e (.var 18), .e (.var 19), .e (.var 20), .e (.var 21), .e (.var 22), .e (.var 23), .e (.var 24), .e (.var 25), .e (.var 26), .e (.var 27), .e (.var 28), .e (.var 29), .e (.var 30), .e (.var 31), .e (.var 32), .e (.var 33), .e (.var 34), .e (.var 35), .e (.var 36), .e (.var 37), .e (.var 38), .e (.var 39), .e (.var 40), .e (.var 41), .e (.var 42), .e (.var 43), .e (.var 44), .e (.var 45), .e (.var 46), .e (.var 47)], .ag [.e (.var 48), .e (.var 49), .e (.var 50), .e (.var 51), .e (.var 52), .e (.var 53), .e (.var 54), .e (.var 55), .e (.var 56), .e (.var 57), .e (.var 58), .e (.var 59)]], pre := [], tin := [.int .i64, .int .i64, .int .i64, .int .i64, .int .i64, .int .i64, .int .i64, .int .i64, .int .i64, .int .i64, .int .i64, .int .i64, .int .i64, .int .i64, .int .i64, .int .i64, .int .i64, .int .i64, .int .i64, .int .i64, .int .i64, .int .i64, .int .i64, .int .i64, .int .i64, .int .i64, .int .i64, .int .i64, .int .i64, .int .i64, .int .i64, .int .i64, .int .i64, .int .i64, .int .i64, .int .i64, .int .i64, .int .i64, .int .i64, .int .i64, .int .i64, .int .i64, .int .i64, .int .i64, .int .i64, .int .i64, .int .i64, .int .i64, .int .i64, .int .i64, .int .i64, .int .i64, .int .i64, .int .i64, .int .i64, .int .i64, .int .i64, .int .i64, .int .i64, .int .i64], gin := [], res := .tu [.ag [.e (.var 0), .e (.var 1), .e (.var 2), .e (.var 3), .e (.var 4), .e (.var 5), .e (.var 6), .e (.var 7), .e (.var 8), .e (.var 9), .e (.var 10), .e (.var 11)], .s (.e (.var 12))], post := [], tout := [.int .i64, .int .i64, .int .i64, .int .i64, .int .i64, .int .i64, .int .i64, .int .i64, .int .i64, .int .i64, .int .i64, .int .i64, .bool], gout := [] }
def cl_iTableApply : List (Nat × Sig) := [(29, sg_iTableValid), (60, sg_iStokesValid), (49, sg_need), (52, sg_times), (56, sg_add), (55, sg_gotStokes)]
theorem run_iTableApply : run ⟨Tryd.prog, glb, cl_iTableApply⟩ [] Tryd.f18 sg_iTableApply (Tryd.f18.body.getD .skip) = tr_iTableApply := by kernel_rfl
theorem om_iTableApply : ΩOK ⟨Tryd.prog, glb, cl_iTableApply⟩ (specsOf Fs_iTableApply) := (ΩOK_cons cong_iTableValid Tryd.call29 (ΩOK_cons cong_iStokesValid Tryd.call60 (ΩOK_cons cong_need Tryd.call49 (ΩOK_cons cong_times Tryd.call52 (ΩOK_cons cong_add Tryd.call56 (ΩOK_cons cong_gotStokes Tryd.call55 ΩOK_nil))))))
theorem con_iTableApply : ConOK Tryd.prog glb 18 sg_iTableApply F_iTableApply.spec := conOK_tree om_iTableApply mixed Tryd.func18 (by kernel_rfl) run_iTableApply
theorem cong_iTableApply : ConOK Tryd.prog glb 18 sg_iTableApply G_iTableApply.spec := con_iTableApply.as as_iTableApply

def sg_sTableApply : Sig := { args := [.ag [.e (.var 0), .e (.var 1), .e (.var 2), .e (.var 3), .e (.var 4), .e (.var 5), .e (.var 6), .e (.var 7), .e (.var 8), .e (.var 9), .e (.var 10), .e (.var 11), .e (.var 12), .e (.var 13), .e (.var 14), .e (.var 15), .e (.var 16), .e (.var 17), .e (.var 18), .e (.var 19), .e (.var 20), .e (.var 21), .e (.var 22), .e (.var 23), .e (.var 24), .e (.var 25), .e (.var 26), .e (.var 27), .e (.var 28), .e (.var 29), .e (.var 30), .e (.var 31), .e (.var 32), .e (.var 33), .e (.var 34), .e (.var 35), .e (.var 36), .e (.var 37), .e (.var 38), .e (.var 39), .e (.var 40), .e (.var 41), .e (.var 42), .e (.var 43), .e (.var 44), .e (.var 45), .e (.var 46), .e (.var 47)], .ag [.e (.var 48), .e (.var 49), .e (.var 50), .e (.var 51), .e (.var 52), .e (.var 53), .e (.var 54), .e (.var 55), .e (.var 56), .e (.var 57), .e (.var 58), .e (.var 59)]], pre := [], tin := [.int .i64, .int .i64, .int .i64, .int .i64, .int .i64, .int .i64, .int .i64, .int .i64, .int .i64, .int .i64, .int .i64, .int .i64, .int .i64, .int .i64, .int .i64, .int .i64, .int .i64, .int .i64, .int .i64, .int .i64, .int .i64, .int .i64, .int .i64, .int .i64, .int .i64, .int .i64, .int .i64, .int .i64, .int .i64, .int .i64, .int .i64, .int .i64, .int .i64, .int .i64, .int .i64, .int .i64, .int .i64, .int .i64, .int .i64, .int .i64, .int .i64, .int .i64, .int .i64, .int .i64, .int .i64, .int .i64, .int .i64, .int .i64, .int .i64, .int .i64, .int .i64, .int .i64, .int .i64, .int .i64, .int .i64, .int .i64, .int .i64, .int .i64, .int .i64, .int .i64], gin := [], res := .tu [.ag [.e (.var 0), .e (.var 1), .e (.var 2), .e (.var 3), .e (.var 4), .e (.var 5), .e (.var 6), .e (.var 7), .e (.var 8), .e (.var 9), .e (.var 10), .e (.var 11)], .s (.e (.var 12))], post := [], tout := [.int .i64, .int .i64, .int .i64, .int .i64, .int .i64, .int .i64, .int .i64, .int .i64, .int .i64, .int .i64, .int .i64, .int .i64, .bool], gout := [] }
def cl_sTableApply : List (Nat × Sig) := [(30, sg_sTableValid), (108, sg_sStokesValid), (110, sg_l6tOf0), (110, sg_l6tOf1), (110, sg_l6tOf2), (110, sg_l6tOf3), (109, sg_l6tRow)]
theorem run_sTableApply : run ⟨Tryd.prog, glb, cl_sTableApply⟩ [] Tryd.f80 sg_sTableApply (Tryd.f80.body.getD .skip) = tr_sTableApply := by kernel_rfl
theorem om_sTableApply : ΩOK ⟨Tryd.prog, glb, cl_sTableApply⟩ (specsOf Fs_sTableApply) := (ΩOK_cons cong_sTableValid Tryd.call30 (ΩOK_cons cong_sStokesValid Tryd.call108 (ΩOK_cons con_l6tOf0 Tryd.call110 (ΩOK_cons con_l6tOf1 Tryd.call110 (ΩOK_cons con_l6tOf2 Tryd.call110 (ΩOK_cons con_l6tOf3 Tryd.call110 (ΩOK_cons cong_l6tRow Tryd.call109 ΩOK_nil)))))))
theorem con_sTableApply : ConOK Tryd.prog glb 80 sg_sTableApply F_sTableApply.spec := conOK_tree om_sTableApply mixed Tryd.func80 (by kernel_rfl) run_sTableApply
theorem cong_sTableApply : ConOK Tryd.prog glb 80 sg_sTableApply G_sTableApply.spec := con_sTableApply.as as_sTableApply

def sg_l3Inner : Sig := { args := [.ag [.e (.var 0), .e (.var 1), .e (.var 2)], .ag [.e (.var 3), .e (.var 4), .e (.var 5)], .ag [.e (.var 6), .e (.var 7), .e (.var 8)], .ag [.e (.var 9), .e (.var 10), .e (.var 11)]], pre := [], tin := [.int .i64, .int .i64, .int .i64, .int .i64, .int .i64, .int .i64, .int .i64, .int .i64, .int .i64, .int .i64, .int .i64, .int .i64], gin := [], res := .tu [.ag [.e (.var 0), .e (.var 1), .e (.var 2)], .s (.e (.var 3))], post := [], tout := [.int .i64, .int .i64, .int .i64, .bool], gout := [] }
def cl_l3Inner : List (Nat × Sig) := [(112, sg_sFracTimes), (122, sg_sFracAdd)]
theorem run_l3Inner : run ⟨Tryd.prog, glb, cl_l3Inner⟩ [] Tryd.f121 sg_l3Inner (Tryd.f121.body.getD .skip) = tr_l3Inner := by kernel_rfl
theorem om_l3Inner : ΩOK ⟨Tryd.prog, glb, cl_l3Inner⟩ (specsOf Fs_l3Inner) := (ΩOK_cons cong_sFracTimes Tryd.call112 (ΩOK_cons cong_sFracAdd Tryd.call122 ΩOK_nil))
theorem con_l3Inner : ConOK Tryd.prog glb 121 sg_l3Inner F_l3Inner.spec := conOK_tree om_l3Inner mixed Tryd.func121 (by kernel_rfl) run_l3Inner
theorem cong_l3Inner : ConOK Tryd.prog glb 121 sg_l3Inner G_l3Inner.spec := con_l3Inner.as as_l3Inner

def sg_iTableMix : Sig := { args := [.ag [.e (.var 0), .e (.var 1), .e (.var 2), .e (.var 3), .e (.var 4), .e (.var 5), .e (.var 6), .e (.var 7), .e (.var 8), .e (.var 9), .e (.var 10), .e (.var 11), .e (.var 12), .e (.var 13), .e (.var 14), .e (.var 15), .e (.var 16), .e (.var 17), .e (.var 18), .e (.var 19), .e (.var 20), .e (.var 21), .e (.var 22), .e (.var 23), .e (.var 24), .e (.var 25), .e (.var 26), .e (.var 27), .e (.var 28), .e (.var 29), .e (.var 30), .e (.var 31), .e (.var 32), .e (.var 33), .e (.var 34), .e (.var 35), .e (.var 36), .e (.var 37), .e (.var 38), .e (.var 39), .e (.var 40), .e (.var 41), .e (.var 42), .e (.var 43), .e (.var 44), .e (.var 45), .e (.var 46), .e (.var 47)], .ag [.e (.var 48), .e (.var 49), .e (.var 50), .e (.var 51), .e (.var 52), .e (.var 53), .e (.var 54), .e (.var 55), .e (.var 56), .e (.var 57), .e (.var 58), .e (.var 59), .e (.var 60), .e (.var 61), .e (.var 62), .e (.var 63), .e (.var 64), .e (.var 65), .e (.var 66), .e (.var 67), .e (.var 68), .e (.var 69), .e (.var 70), .e (.var 71), .e (.var 72), .e (.var 73), .e (.var 74), .e (.var 75), .e (.var 76), .e (.var 77), .e (.var 78), .e (.var 79), .e (.var 80), .e (.var 81), .e (.var 82), .e (.var 83), .e (.var 84), .e (.var 85), .e (.var 86), .e (.var 87), .e (.var 88), .e (.var 89), .e (.var 90), .e (.var 91), .e (.var 92), .e (.var 93), .e (.var 94), .e (.var 95)], .s (.e (.var 96)), .s (.e (.var 97))], pre := [], tin := [.int .i64, .int .i64, .int .i64, .int .i64, .int .i64, .int .i64, .int .i64, .int .i64, .int .i64, .int .i64, .int .i64, .int .i64, .int .i64, .int .i64, .int .i64, .int .i64, .int .i64, .int .i64, .int .i64, .int .i64, .int .i64, .int .i64, .int .i64, .int .i64, .int .i64, .int .i64, .int .i64, .int .i64, .int .i64, .int .i64, .int .i64, .int .i64, .int .i64, .int .i64, .int .i64, .int .i64, .int .i64, .int .i64, .int .i64, .int .i64, .int .i64, .int .i64, .int .i64, .int .i64, .int .i64, .int .i64, .int .i64, .int .i64, .int .i64, .int .i64, .int .i64, .int .i64, .int .i64, .int .i64, .int .i64, .int .i64, .int .i64, .int .i64, .int .i64, .int .i64, .int .i64, .int .i64, .int .i64, .int .i64, .int .i64, .int .i64, .int .i64, .int .i64, .int .i64, .int .i64, .int .i64, .int .i64, .int .i64, .int .i64, .int .i64, .int .i64, .int .i64, .int .i64, .int .i64, .int .i64, .int .i64, .int .i64, .int .i64, .int .i64, .int .i64, .int .i64, .int .i64, .int .i64, .int .i64, .int .i64, .int .i64, .int .i64, .int .i64, .int .i64, .int .i64, .int .i64, .int .i64, .int .i64], gin := [], res := .tu [.ag [.e (.var 0), .e (.var 1), .e (.var 2), .e (.var 3), .e (.var 4), .e (.var 5), .e (.var 6), .e (.var 7), .e (.var 8), .e (.var 9), .e (.var 10), .e (.var 11), .e (.var 12), .e (.var 13), .e (.var 14), .e (.var 15), .e (.var 16), .e (.var 17), .e (.var 18), .e (.var 19), .e (.var 20), .e (.var 21), .e (.var 22), .e (.var 23), .e (.var 24), .e (.var 25), .e (.var 26), .e (.var 27), .e (.var 28), .e (.var 29), .e (.var 30), .e (.var 31), .e (.var 32), .e (.var 33), .e (.var 34), .e (.var 35), .e (.var 36), .e (.var 37), .e (.var 38), .e (.var 39), .e (.var 40), .e (.var 41), .e (.var 42), .e (.var 43), .e (.var 44), .e (.var 45), .e (.var 46), .e (.var 47)], .s (.e (.var 48))], post := [], tout := [.int .i64, .int .i64, .int .i64, .int .i64, .int .i64, .int .i64, .int .i64, .int .i64, .int .i64, .int .i64, .int .i64, .int .i64, .int .i64, .int .i64, .int .i64, .int .i64, .int .i64, .int .i64, .int .i64, .int .i64, .int .i64, .int .i64, .int .i64, .int .i64, .int .i64, .int .i64, .int .i64, .int .i64, .int .i64, .int .i64, .int .i64, .int .i64, .int .i64, .int .i64, .int .i64, .int .i64, .int .i64, .int .i64, .int .i64, .int .i64, .int .i64, .int .i64, .int .i64, .int .i64, .int .i64, .int .i64, .int .i64, .int .i64, .bool], gout := [] }
def cl_iTableMix : List (Nat × Sig) := [(75, sg_within), (29, sg_iTableValid), (49, sg_need), (79, sg_lowest), (52, sg_times), (56, sg_add), (72, sg_gotTable)]
theorem run_iTableMix : run ⟨Tryd.prog, glb, cl_iTableMix⟩ [] Tryd.f38 sg_iTableMix (Tryd.f38.body.getD .skip) = tr_iTableMix := by kernel_rfl
theorem om_iTableMix : ΩOK ⟨Tryd.prog, glb, cl_iTableMix⟩ (specsOf Fs_iTableMix) := (ΩOK_cons cong_within Tryd.call75 (ΩOK_cons cong_iTableValid Tryd.call29 (ΩOK_cons cong_need Tryd.call49 (ΩOK_cons cong_lowest Tryd.call79 (ΩOK_cons cong_times Tryd.call52 (ΩOK_cons cong_add Tryd.call56 (ΩOK_cons cong_gotTable Tryd.call72 ΩOK_nil)))))))
theorem con_iTableMix : ConOK Tryd.prog glb 38 sg_iTableMix F_iTableMix.spec := conOK_tree om_iTableMix mixed Tryd.func38 (by kernel_rfl) run_iTableMix
theorem cong_iTableMix : ConOK Tryd.prog glb 38 sg_iTableMix G_iTableMix.spec := con_iTableMix.as as_iTableMix

def sg_sMatValid : Sig := { args := [.ag [.e (.var 0), .e (.var 1), .e (.var 2), .e (.var 3), .e (.var 4), .e (.var 5), .e (.var 6), .e (.var 7), .e (.var 8), .e (.var 9), .e (.var 10), .e (.var 11)]], pre := [], tin := [.int .i64, .int .i64, .int .i64, .int .i64, .int .i64, .int .i64, .int .i64, .int .i64, .int .i64, .int .i64, .int .i64, .int .i64], gin := [], res := .c (.s (.e (.var 0))), post := [], tout := [.bool], gout := [] }
def cl_sMatValid : List (Nat × Sig) := [(47, sg_sFracValid)]
theorem run_sMatValid : run ⟨Tryd.prog, glb, cl_sMatValid⟩ [] Tryd.f64 sg_sMatValid (Tryd.f64.body.getD .skip) = tr_sMatValid := by kernel_rfl
theorem om_sMatValid : ΩOK ⟨Tryd.prog, glb, cl_sMatValid⟩ (specsOf Fs_sMatValid) := (ΩOK_cons cong_sFracValid Tryd.call47 ΩOK_nil)
theorem con_sMatValid : ConOK Tryd.prog glb 64 sg_sMatValid F_sMatValid.spec := conOK_tree om_sMatValid mixed Tryd.func64 (by kernel_rfl) run_sMatValid
theorem cong_sMatValid : ConOK Tryd.prog glb 64 sg_sMatValid G_sMatValid.spec := con_sMatValid.as as_sMatValid

def sg_sFracMirror : Sig := { args := [.ag [.e (.var 0), .e (.var 1), .e (.var 2)]], pre := [], tin := [.int .i64, .int .i64, .int .i64], gin := [], res := .tu [.ag [.e (.var 0), .e (.var 1), .e (.var 2)], .s (.e (.var 3))], post := [], tout := [.int .i64, .int .i64, .int .i64, .bool], gout := [] }
def cl_sFracMirror : List (Nat × Sig) := [(47, sg_sFracValid)]
theorem run_sFracMirror : run ⟨Tryd.prog, glb, cl_sFracMirror⟩ [] Tryd.f111 sg_sFracMirror (Tryd.f111.body.getD .skip) = tr_sFracMirror := by kernel_rfl
theorem om_sFracMirror : ΩOK ⟨Tryd.prog, glb, cl_sFracMirror⟩ (specsOf Fs_sFracMirror) := (ΩOK_cons cong_sFracValid Tryd.call47 ΩOK_nil)
theorem con_sFracMirror : ConOK Tryd.prog glb 111 sg_sFracMirror F_sFracMirror.spec := conOK_tree om_sFracMirror mixed Tryd.func111 (by kernel_rfl) run_sFracMirror
theorem cong_sFracMirror : ConOK Tryd.prog glb 111 sg_sFracMirror G_sFracMirror.spec := con_sFracMirror.as as_sFracMirror

def sg_l2SumP : Sig := { args := [.ag [.e (.var 0), .e (.var 1), .e (.var 2)], .s (.e (.int .i64 (1))), .ag [.e (.var 3), .e (.var 4), .e (.var 5)]], pre := [], tin := [.int .i64, .int .i64, .int .i64, .int .i64, .int .i64, .int .i64], gin := [], res := .tu [.ag [.e (.var 0), .e (.var 1), .e (.var 2)], .s (.e (.var 3))], post := [], tout := [.int .i64, .int .i64, .int .i64, .bool], gout := [] }
def cl_l2SumP : List (Nat × Sig) := [(47, sg_sFracValid), (86, sg_l2Low)]
theorem run_l2SumP : run ⟨Tryd.prog, glb, cl_l2SumP⟩ [] Tryd.f113 sg_l2SumP (Tryd.f113.body.getD .skip) = tr_l2SumP := by kernel_rfl
theorem om_l2SumP : ΩOK ⟨Tryd.prog, glb, cl_l2SumP⟩ (specsOf Fs_l2SumP) := (ΩOK_cons cong_sFracValid Tryd.call47 (ΩOK_cons cong_l2Low Tryd.call86 ΩOK_nil))
theorem con_l2SumP : ConOK Tryd.prog glb 113 sg_l2SumP F_l2SumP.spec := conOK_tree om_l2SumP mixed Tryd.func113 (by kernel_rfl) run_l2SumP
theorem cong_l2SumP : ConOK Tryd.prog glb 113 sg_l2SumP G_l2SumP.spec := con_l2SumP.as as_l2SumP

def sg_l2SumM : Sig := { args := [.ag [.e (.var 0), .e (.var 1), .e (.var 2)], .s (.e (.int .i64 (-1))), .ag [.e (.var 3), .e (.var 4), .e (.var 5)]], pre := [], tin := [.int .i64, .int .i64, .int .i64, .int .i64, .int .i64, .int .i64], gin := [], res := .tu [.ag [.e (.var 0), .e (.var 1), .e (.var 2)], .s (.e (.var 3))], post := [], tout := [.int .i64, .int .i64, .int .i64, .bool], gout := [] }
def cl_l2SumM : List (Nat × Sig) := [(47, sg_sFracValid), (86, sg_l2Low)]
theorem run_l2SumM : run ⟨Tryd.prog, glb, cl_l2SumM⟩ [] Tryd.f113 sg_l2SumM (Tryd.f113.body.getD .skip) = tr_l2SumM := by kernel_rfl
theorem om_l2SumM : ΩOK ⟨Tryd.prog, glb, cl_l2SumM⟩ (specsOf Fs_l2SumM) := (ΩOK_cons cong_sFracValid Tryd.call47 (ΩOK_cons cong_l2Low Tryd.call86 ΩOK_nil))
theorem con_l2SumM : ConOK Tryd.prog glb 113 sg_l2SumM F_l2SumM.spec := conOK_tree om_l2SumM mixed Tryd.func113 (by kernel_rfl) run_l2SumM
theorem cong_l2SumM : ConOK Tryd.prog glb 113 sg_l2SumM G_l2SumM.spec := con_l2SumM.as as_l2SumM

def sg_l6tAddP : Sig := { args := [.s (.p (.own 0) 0), .ag [.e (.var 0), .e (.var 1), .e (.var 2)], .s (.e (.int .i64 (1))), .ag [.e (.var 3), .e (.var 4), .e (.var 5)]], pre := [⟨[.e (.var 6)], 97⟩], tin := [.int .i64, .int .i64, .int .i64, .int .i64, .int .i64, .int .i64, .bool], gin := [], res := .c (.ag [.e (.var 0), .e (.var 1), .e (.var 2)]), post := [⟨[.e (.var 3)], 97⟩], tout := [.int .i64, .int .i64, .int .i64, .bool], gout := [] }
def cl_l6tAddP : List (Nat × Sig) := [(113, sg_l2SumP)]
theorem run_l6tAddP : run ⟨Tryd.prog, glb, cl_l6tAddP⟩ [] Tryd.f98 sg_l6tAddP (Tryd.f98.body.getD .skip) = tr_l6tAddP := by kernel_rfl
theorem om_l6tAddP : ΩOK ⟨Tryd.prog, glb, cl_l6tAddP⟩ (specsOf Fs_l6tAddP) := (ΩOK_cons cong_l2SumP Tryd.call113 ΩOK_nil)
theorem con_l6tAddP : ConOK Tryd.prog glb 98 sg_l6tAddP F_l6tAddP.spec := conOK_tree om_l6tAddP mixed Tryd.func98 (by kernel_rfl) run_l6tAddP
theorem cong_l6tAddP : ConOK Tryd.prog glb 98 sg_l6tAddP G_l6tAddP.spec := con_l6tAddP.as as_l6tAddP

def sg_l6tAddM : Sig := { args := [.s (.p (.own 0) 0), .ag [.e (.var 0), .e (.var 1), .e (.var 2)], .s (.e (.int .i64 (-1))), .ag [.e (.var 3), .e (.var 4), .e (.var 5)]], pre := [⟨[.e (.var 6)], 97⟩], tin := [.int .i64, .int .i64, .int .i64, .int .i64, .int .i64, .int .i64, .bool], gin := [], res := .c (.ag [.e (.var 0), .e (.var 1), .e (.var 2)]), post := [⟨[.e (.var 3)], 97⟩], tout := [.int .i64, .int .i64, .int .i64, .bool], gout := [] }
def cl_l6tAddM : List (Nat × Sig) := [(113, sg_l2SumM)]
theorem run_l6tAddM : run ⟨Tryd.prog, glb, cl_l6tAddM⟩ [] Tryd.f98 sg_l6tAddM (Tryd.f98.body.getD .skip) = tr_l6tAddM := by kernel_rfl
theorem om_l6tAddM : ΩOK ⟨Tryd.prog, glb, cl_l6tAddM⟩ (specsOf Fs_l6tAddM) := (ΩOK_cons cong_l2SumM Tryd.call113 ΩOK_nil)
theorem con_l6tAddM : ConOK Tryd.prog glb 98 sg_l6tAddM F_l6tAddM.spec := conOK_tree om_l6tAddM mixed Tryd.func98 (by kernel_rfl) run_l6tAddM
theorem cong_l6tAddM : ConOK Tryd.prog glb 98 sg_l6tAddM G_l6tAddM.spec := con_l6tAddM.as as_l6tAddM

def sg_l6tPair : Sig := { args := [.s (.p (.own 0) 0), .ag [.e (.var 0), .e (.var 1), .e (.var 2)], .ag [.e (.var 3), .e (.var 4), .e (.var 5)]], pre := [⟨[.e (.var 6)], 97⟩], tin := [.int .i64, .int .i64, .int .i64, .int .i64, .int .i64, .int .i64, .bool], gin := [], res := .c (.ag [.e (.var 0), .e (.var 1), .e (.var 2)]), post := [⟨[.e (.var 3)], 97⟩], tout := [.int .i64, .int .i64, .int .i64, .bool], gout := [] }
def cl_l6tPair : List (Nat × Sig) := [(111, sg_sFracMirror), (112, sg_sFracTimes)]
theorem run_l6tPair : run ⟨Tryd.prog, glb, cl_l6tPair⟩ [] Tryd.f97 sg_l6tPair (Tryd.f97.body.getD .skip) = tr_l6tPair := by kernel_rfl
theorem om_l6tPair : ΩOK ⟨Tryd.prog, glb, cl_l6tPair⟩ (specsOf Fs_l6tPair) := (ΩOK_cons cong_sFracMirror Tryd.call111 (ΩOK_cons cong_sFracTimes Tryd.call112 ΩOK_nil))
theorem con_l6tPair : ConOK Tryd.prog glb 97 sg_l6tPair F_l6tPair.spec := conOK_tree om_l6tPair mixed Tryd.func97 (by kernel_rfl) run_l6tPair
theorem cong_l6tPair : ConOK Tryd.prog glb 97 sg_l6tPair G_l6tPair.spec := con_l6tPair.as as_l6tPair

def sg_l6tPart20 : Sig := { args := [.s (.p (.own 0) 0), .ag [.e (.var 0), .e (.var 1), .e (.var 2)], .s (.e (.int .i64 (2))), .s (.e (.bool false))], pre := [⟨[.e (.var 3)], 97⟩], tin := [.int .i64, .int .i64, .int .i64, .bool], gin := [], res := .c (.ag [.e (.var 0), .e (.var 1), .e (.var 2)]), post := [⟨[.e (.var 3)], 97⟩], tout := [.int .i64, .int .i64, .int .i64, .bool], gout := [] }
def cl_l6tPart20 : List (Nat × Sig) := [(114, sg_sFracMake)]
theorem run_l6tPart20 : run ⟨Tryd.prog, glb, cl_l6tPart20⟩ [] Tryd.f99 sg_l6tPart20 (Tryd.f99.body.getD .skip) = tr_l6tPart20 := by kernel_rfl
theorem om_l6tPart20 : ΩOK ⟨Tryd.prog, glb, cl_l6tPart20⟩ (specsOf Fs_l6tPart20) := (ΩOK_cons cong_sFracMake Tryd.call114 ΩOK_nil)
theorem con_l6tPart20 : ConOK Tryd.prog glb 99 sg_l6tPart20 F_l6tPart20.spec := conOK_tree om_l6tPart20 mixed Tryd.func99 (by kernel_rfl) run_l6tPart20
theorem cong_l6tPart20 : ConOK Tryd.prog glb 99 sg_l6tPart20 G_l6tPart20.spec := con_l6tPart20.as as_l6tPart20

def sg_l6tPart10 : Sig := { args := [.s (.p (.own 0) 0), .ag [.e (.var 0), .e (.var 1), .e (.var 2)], .s (.e (.int .i64 (1))), .s (.e (.bool false))], pre := [⟨[.e (.var 3)], 97⟩], tin := [.int .i64, .int .i64, .int .i64, .bool], gin := [], res := .c (.ag [.e (.var 0), .e (.var 1), .e (.var 2)]), post := [⟨[.e (.var 3)], 97⟩], tout := [.int .i64, .int .i64, .int .i64, .bool], gout := [] }
def cl_l6tPart10 : List (Nat × Sig) := [(114, sg_sFracMake)]
theorem run_l6tPart10 : run ⟨Tryd.prog, glb, cl_l6tPart10⟩ [] Tryd.f99 sg_l6tPart10 (Tryd.f99.body.getD .skip) = tr_l6tPart10 := by kernel_rfl
theorem om_l6tPart10 : ΩOK ⟨Tryd.prog, glb, cl_l6tPart10⟩ (specsOf Fs_l6tPart10) := (ΩOK_cons cong_sFracMake Tryd.call114 ΩOK_nil)
theorem con_l6tPart10 : ConOK Tryd.prog glb 99 sg_l6tPart10 F_l6tPart10.spec := conOK_tree om_l6tPart10 mixed Tryd.func99 (by kernel_rfl) run_l6tPart10
theorem cong_l6tPart10 : ConOK Tryd.prog glb 99 sg_l6tPart10 G_l6tPart10.spec := con_l6tPart10.as as_l6tPart10

def sg_l6tPart11 : Sig := { args := [.s (.p (.own 0) 0), .ag [.e (.var 0), .e (.var 1), .e (.var 2)], .s (.e (.int .i64 (1))), .s (.e (.bool true))], pre := [⟨[.e (.var 3)], 97⟩], tin := [.int .i64, .int .i64, .int .i64, .bool], gin := [], res := .c (.ag [.e (.var 0), .e (.var 1), .e (.var 2)]), post := [⟨[.e (.var 3)], 97⟩], tout := [.int .i64, .int .i64, .int .i64, .bool], gout := [] }
def cl_l6tPart11 : List (Nat × Sig) := [(114, sg_sFracMake)]
theorem run_l6tPart11 : run ⟨Tryd.prog, glb, cl_l6tPart11⟩ [] Tryd.f99 sg_l6tPart11 (Tryd.f99.body.getD .skip) = tr_l6tPart11 := by kernel_rfl
theorem om_l6tPart11 : ΩOK ⟨Tryd.prog, glb, cl_l6tPart11⟩ (specsOf Fs_l6tPart11) := (ΩOK_cons cong_sFracMake Tryd.call114 ΩOK_nil)
theorem con_l6tPart11 : ConOK Tryd.prog glb 99 sg_l6tPart11 F_l6tPart11.spec := conOK_tree om_l6tPart11 mixed Tryd.func99 (by kernel_rfl) run_l6tPart11
theorem cong_l6tPart11 : ConOK Tryd.prog glb 99 sg_l6tPart11 G_l6tPart11.spec := con_l6tPart11.as as_l6tPart11

def sg_l6tPowersA : Sig := { args := [.s (.p (.own 0) 0), .ag [.e (.var 0), .e (.var 1), .e (.var 2), .e (.var 3), .e (.var 4), .e (.var 5), .e (.var 6), .e (.var 7), .e (.var 8), .e (.var 9), .e (.var 10), .e (.var 11)], .s (.e (.int .i64 (1))), .s (.e (.int .i64 (1))), .s (.e (.int .i64 (1)))], pre := [⟨[.e (.var 12)], 97⟩], tin := [.int .i64, .int .i64, .int .i64, .int .i64, .int .i64, .int .i64, .int .i64, .int .i64, .int .i64, .int .i64, .int .i64, .int .i64, .bool], gin := [], res := .c (.ag [.e (.var 0), .e (.var 1), .e (.var 2)]), post := [⟨[.e (.var 3)], 97⟩], tout := [.int .i64, .int .i64, .int .i64, .bool], gout := [] }
def cl_l6tPowersA : List (Nat × Sig) := [(97, sg_l6tPair), (98, sg_l6tAddP), (98, sg_l6tAddM), (99, sg_l6tPart20)]
theorem run_l6tPowersA : run ⟨Tryd.prog, glb, cl_l6tPowersA⟩ [] Tryd.f65 sg_l6tPowersA (Tryd.f65.body.getD .skip) = tr_l6tPowersA := by kernel_rfl
theorem om_l6tPowersA : ΩOK ⟨Tryd.prog, glb, cl_l6tPowersA⟩ (specsOf Fs_l6tPowersA) := (ΩOK_cons cong_l6tPair Tryd.call97 (ΩOK_cons cong_l6tAddP Tryd.call98 (ΩOK_cons cong_l6tAddM Tryd.call98 (ΩOK_cons cong_l6tPart20 Tryd.call99 ΩOK_nil))))
theorem con_l6tPowersA : ConOK Tryd.prog glb 65 sg_l6tPowersA F_l6tPowersA.spec := conOK_tree om_l6tPowersA mixed Tryd.func65 (by kernel_rfl) run_l6tPowersA

def sg_l6tPowersB : Sig := { args := [.s (.p (.own 0) 0), .ag [.e (.var 0), .e (.var 1), .e (.var 2), .e (.var 3), .e (.var 4), .e (.var 5), .e (.var 6), .e (.var 7), .e (.var 8), .e (.var 9), .e (.var 10), .e (.var 11)], .s (.e (.int .i64 (-1))), .s (.e (.int .i64 (1))), .s (.e (.int .i64 (-1)))], pre := [⟨[.e (.var 12)], 97⟩], tin := [.int .i64, .int .i64, .int .i64, .int .i64, .int .i64, .int .i64, .int .i64, .int .i64, .int .i64, .int .i64, .int .i64, .int .i64, .bool], gin := [], res := .c (.ag [.e (.var 0), .e (.var 1), .e (.var 2)]), post := [⟨[.e (.var 3)], 97⟩], tout := [.int .i64, .int .i64, .int .i64, .bool], gout := [] }
def cl_l6tPowersB : List (Nat × Sig) := [(97, sg_l6tPair), (98, sg_l6tAddP), (98, sg_l6tAddM), (99, sg_l6tPart20)]
theorem run_l6tPowersB : run ⟨Tryd.prog, glb, cl_l6tPowersB⟩ [] Tryd.f65 sg_l6tPowersB (Tryd.f65.body.getD .skip) = tr_l6tPowersB := by kernel_rfl
theorem om_l6tPowersB : ΩOK ⟨Tryd.prog, glb, cl_l6tPowersB⟩ (specsOf Fs_l6tPowersB) := (ΩOK_cons cong_l6tPair Tryd.call97 (ΩOK_cons cong_l6tAddP Tryd.call98 (ΩOK_cons cong_l6tAddM Tryd.call98 (ΩOK_cons cong_l6tPart20 Tryd.call99 ΩOK_nil))))
theorem con_l6tPowersB : ConOK Tryd.prog glb 65 sg_l6tPowersB F_l6tPowersB.spec := conOK_tree om_l6tPowersB mixed Tryd.func65 (by kernel_rfl) run_l6tPowersB

def sg_l6tPowersC : Sig := { args := [.s (.p (.own 0) 0), .ag [.e (.var 0), .e (.var 1), .e (.var 2), .e (.var 3), .e (.var 4), .e (.var 5), .e (.var 6), .e (.var 7), .e (.var 8), .e (.var 9), .e (.var 10), .e (.var 11)], .s (.e (.int .i64 (1))), .s (.e (.int .i64 (-1))), .s (.e (.int .i64 (-1)))], pre := [⟨[.e (.var 12)], 97⟩], tin := [.int .i64, .int .i64, .int .i64, .int .i64, .int .i64, .int .i64, .int .i64, .int .i64, .int .i64, .int .i64, .int .i64, .int .i64, .bool], gin := [], res := .c (.ag [.e (.var 0), .e (.var 1), .e (.var 2)]), post := [⟨[.e (.var 3)], 97⟩], tout := [.int .i64, .int .i64, .int .i64, .bool], gout := [] }
def cl_l6tPowersC : List (Nat × Sig) := [(97, sg_l6tPair), (98, sg_l6tAddP), (98, sg_l6tAddM), (99, sg_l6tPart20)]
theorem run_l6tPowersC : run ⟨Tryd.prog, glb, cl_l6tPowersC⟩ [] Tryd.f65 sg_l6tPowersC (Tryd.f65.body.getD .skip) = tr_l6tPowersC := by kernel_rfl
theorem om_l6tPowersC : ΩOK ⟨Tryd.prog, glb, cl_l6tPowersC⟩ (specsOf Fs_l6tPowersC) := (ΩOK_cons cong_l6tPair Tryd.call97 (ΩOK_cons cong_l6tAddP Tryd.call98 (ΩOK_cons cong_l6tAddM Tryd.call98 (ΩOK_cons cong_l6tPart20 Tryd.call99 ΩOK_nil))))
theorem con_l6tPowersC : ConOK Tryd.prog glb 65 sg_l6tPowersC F_l6tPowersC.spec := conOK_tree om_l6tPowersC mixed Tryd.func65 (by kernel_rfl) run_l6tPowersC

def sg_l6tPowersD : Sig := { args := [.s (.p (.own 0) 0), .ag [.e (.var 0), .e (.var 1), .e (.var 2), .e (.var 3), .e (.var 4), .e (.var 5), .e (.var 6), .e (.var 7), .e (.var 8), .e (.var 9), .e (.var 10), .e (.var 11)], .s (.e (.int .i64 (-1))), .s (.e (.int .i64 (-1))), .s (.e (.int .i64 (1)))], pre := [⟨[.e (.var 12)], 97⟩], tin := [.int .i64, .int .i64, .int .i64, .int .i64, .int .i64, .int .i64, .int .i64, .int .i64, .int .i64, .int .i64, .int .i64, .int .i64, .bool], gin := [], res := .c (.ag [.e (.var 0), .e (.var 1), .e (.var 2)]), post := [⟨[.e (.var 3)], 97⟩], tout := [.int .i64, .int .i64, .int .i64, .bool], gout := [] }
def cl_l6tPowersD : List (Nat × Sig) := [(97, sg_l6tPair), (98, sg_l6tAddP), (98, sg_l6tAddM), (99, sg_l6tPart20)]
theorem run_l6tPowersD : run ⟨Tryd.prog, glb, cl_l6tPowersD⟩ [] Tryd.f65 sg_l6tPowersD (Tryd.f65.body.getD .skip) = tr_l6tPowersD := by kernel_rfl
theorem om_l6tPowersD : ΩOK ⟨Tryd.prog, glb, cl_l6tPowersD⟩ (specsOf Fs_l6tPowersD) := (ΩOK_cons cong_l6tPair Tryd.call97 (ΩOK_cons cong_l6tAddP Tryd.call98 (ΩOK_cons cong_l6tAddM Tryd.call98 (ΩOK_cons cong_l6tPart20 Tryd.call99 ΩOK_nil))))
theorem con_l6tPowersD : ConOK Tryd.prog glb 65 sg_l6tPowersD F_l6tPowersD.spec := conOK_tree om_l6tPowersD mixed Tryd.func65 (by kernel_rfl) run_l6tPowersD

def sg_l6tTwo2 : Sig := { args := [.s (.p (.own 0) 0), .ag [.e (.var 0), .e (.var 1), .e (.var 2), .e (.var 3), .e (.var 4), .e (.var 5), .e (.var 6), .e (.var 7), .e (.var 8), .e (.var 9), .e (.var 10), .e (.var 11)], .s (.e (.int .i64 (0))), .s (.e (.int .i64 (1))), .s (.e (.int .i64 (1))), .s (.e (.int .i64 (2))), .s (.e (.int .i64 (3))), .s (.e (.bool false))], pre := [⟨[.e (.var 12)], 97⟩], tin := [.int .i64, .int .i64, .int .i64, .int .i64, .int .i64, .int .i64, .int .i64, .int .i64, .int .i64, .int .i64, .int .i64, .int .i64, .bool], gin := [], res := .c (.ag [.e (.var 0), .e (.var 1), .e (.var 2)]), post := [⟨[.e (.var 3)], 97⟩], tout := [.int .i64, .int .i64, .int .i64, .bool], gout := [] }
def cl_l6tTwo2 : List (Nat × Sig) := [(97, sg_l6tPair), (98, sg_l6tAddP), (99, sg_l6tPart10)]
theorem run_l6tTwo2 : run ⟨Tryd.prog, glb, cl_l6tTwo2⟩ [] Tryd.f66 sg_l6tTwo2 (Tryd.f66.body.getD .skip) = tr_l6tTwo2 := by kernel_rfl
theorem om_l6tTwo2 : ΩOK ⟨Tryd.prog, glb, cl_l6tTwo2⟩ (specsOf Fs_l6tTwo2) := (ΩOK_cons cong_l6tPair Tryd.call97 (ΩOK_cons cong_l6tAddP Tryd.call98 (ΩOK_cons cong_l6tPart10 Tryd.call99 ΩOK_nil)))
theorem con_l6tTwo2 : ConOK Tryd.prog glb 66 sg_l6tTwo2 F_l6tTwo2.spec := conOK_tree om_l6tTwo2 mixed Tryd.func66 (by kernel_rfl) run_l6tTwo2

def sg_l6tTwo3 : Sig := { args := [.s (.p (.own 0) 0), .ag [.e (.var 0), .e (.var 1), .e (.var 2), .e (.var 3), .e (.var 4), .e (.var 5), .e (.var 6), .e (.var 7), .e (.var 8), .e (.var 9), .e (.var 10), .e (.var 11)], .s (.e (.int .i64 (1))), .s (.e (.int .i64 (0))), .s (.e (.int .i64 (1))), .s (.e (.int .i64 (3))), .s (.e (.int .i64 (2))), .s (.e (.bool true))], pre := [⟨[.e (.var 12)], 97⟩], tin := [.int .i64, .int .i64, .int .i64, .int .i64, .int .i64, .int .i64, .int .i64, .int .i64, .int .i64, .int .i64, .int .i64, .int .i64, .bool], gin := [], res := .c (.ag [.e (.var 0), .e (.var 1), .e (.var 2)]), post := [⟨[.e (.var 3)], 97⟩], tout := [.int .i64, .int .i64, .int .i64, .bool], gout := [] }
def cl_l6tTwo3 : List (Nat × Sig) := [(97, sg_l6tPair), (98, sg_l6tAddP), (99, sg_l6tPart11)]
theorem run_l6tTwo3 : run ⟨Tryd.prog, glb, cl_l6tTwo3⟩ [] Tryd.f66 sg_l6tTwo3 (Tryd.f66.body.getD .skip) = tr_l6tTwo3 := by kernel_rfl
theorem om_l6tTwo3 : ΩOK ⟨Tryd.prog, glb, cl_l6tTwo3⟩ (specsOf Fs_l6tTwo3) := (ΩOK_cons cong_l6tPair Tryd.call97 (ΩOK_cons cong_l6tAddP Tryd.call98 (ΩOK_cons cong_l6tPart11 Tryd.call99 ΩOK_nil)))
theorem con_l6tTwo3 : ConOK Tryd.prog glb 66 sg_l6tTwo3 F_l6tTwo3.spec := conOK_tree om_l6tTwo3 mixed Tryd.func66 (by kernel_rfl) run_l6tTwo3

def sg_l6tTwo6 : Sig := { args := [.s (.p (.own 0) 0), .ag [.e (.var 0), .e (.var 1), .e (.var 2), .e (.var 3), .e (.var 4), .e (.var 5), .e (.var 6), .e (.var 7), .e (.var 8), .e (.var 9), .e (.var 10), .e (.var 11)], .s (.e (.int .i64 (0))), .s (.e (.int .i64 (1))), .s (.e (.int .i64 (-1))), .s (.e (.int .i64 (2))), .s (.e (.int .i64 (3))), .s (.e (.bool false))], pre := [⟨[.e (.var 12)], 97⟩], tin := [.int .i64, .int .i64, .int .i64, .int .i64, .int .i64, .int .i64, .int .i64, .int .i64, .int .i64, .int .i64, .int .i64, .int .i64, .bool], gin := [], res := .c (.ag [.e (.var 0), .e (.var 1), .e (.var 2)]), post := [⟨[.e (.var 3)], 97⟩], tout := [.int .i64, .int .i64, .int .i64, .bool], gout := [] }
def cl_l6tTwo6 : List (Nat × Sig) := [(97, sg_l6tPair), (98, sg_l6tAddM), (99, sg_l6tPart10)]
theorem run_l6tTwo6 : run ⟨Tryd.prog, glb, cl_l6tTwo6⟩ [] Tryd.f66 sg_l6tTwo6 (Tryd.f66.body.getD .skip) = tr_l6tTwo6 := by kernel_rfl
theorem om_l6tTwo6 : ΩOK ⟨Tryd.prog, glb, cl_l6tTwo6⟩ (specsOf Fs_l6tTwo6) := (ΩOK_cons cong_l6tPair Tryd.call97 (ΩOK_cons cong_l6tAddM Tryd.call98 (ΩOK_cons cong_l6tPart10 Tryd.call99 ΩOK_nil)))
theorem con_l6tTwo6 : ConOK Tryd.prog glb 66 sg_l6tTwo6 F_l6tTwo6.spec := conOK_tree om_l6tTwo6 mixed Tryd.func66 (by kernel_rfl) run_l6tTwo6

def sg_l6tTwo7 : Sig := { args := [.s (.p (.own 0) 0), .ag [.e (.var 0), .e (.var 1), .e (.var 2), .e (.var 3), .e (.var 4), .e (.var 5), .e (.var 6), .e (.var 7), .e (.var 8), .e (.var 9), .e (.var 10), .e (.var 11)], .s (.e (.int .i64 (1))), .s (.e (.int .i64 (0))), .s (.e (.int .i64 (-1))), .s (.e (.int .i64 (3))), .s (.e (.int .i64 (2))), .s (.e (.bool true))], pre := [⟨[.e (.var 12)], 97⟩], tin := [.int .i64, .int .i64, .int .i64, .int .i64, .int .i64, .int .i64, .int .i64, .int .i64, .int .i64, .int .i64, .int .i64, .int .i64, .bool], gin := [], res := .c (.ag [.e (.var 0), .e (.var 1), .e (.var 2)]), post := [⟨[.e (.var 3)], 97⟩], tout := [.int .i64, .int .i64, .int .i64, .bool], gout := [] }
def cl_l6tTwo7 : List (Nat × Sig) := [(97, sg_l6tPair), (98, sg_l6tAddM), (99, sg_l6tPart11)]
theorem run_l6tTwo7 : run ⟨Tryd.prog, glb, cl_l6tTwo7⟩ [] Tryd.f66 sg_l6tTwo7 (Tryd.f66.body.getD .skip) = tr_l6tTwo7 := by kernel_rfl
theorem om_l6tTwo7 : ΩOK ⟨Tryd.prog, glb, cl_l6tTwo7⟩ (specsOf Fs_l6tTwo7) := (ΩOK_cons cong_l6tPair Tryd.call97 (ΩOK_cons cong_l6tAddM Tryd.call98 (ΩOK_cons cong_l6tPart11 Tryd.call99 ΩOK_nil)))
theorem con_l6tTwo7 : ConOK Tryd.prog glb 66 sg_l6tTwo7 F_l6tTwo7.spec := conOK_tree om_l6tTwo7 mixed Tryd.func66 (by kernel_rfl) run_l6tTwo7

def sg_l6tTwo8 : Sig := { args := [.s (.p (.own 0) 0), .ag [.e (.var 0), .e (.var 1), .e (.var 2), .e (.var 3), .e (.var 4), .e (.var 5), .e (.var 6), .e (.var 7), .e (.var 8), .e (.var 9), .e (.var 10), .e (.var 11)], .s (.e (.int .i64 (0))), .s (.e (.int .i64 (2))), .s (.e (.int .i64 (1))), .s (.e (.int .i64 (1))), .s (.e (.int .i64 (3))), .s (.e (.bool false))], pre := [⟨[.e (.var 12)], 97⟩], tin := [.int .i64, .int .i64, .int .i64, .int .i64, .int .i64, .int .i64, .int .i64, .int .i64, .int .i64, .int .i64, .int .i64, .int .i64, .bool], gin := [], res := .c (.ag [.e (.var 0), .e (.var 1), .e (.var 2)]), post := [⟨[.e (.var 3)], 97⟩], tout := [.int .i64, .int .i64, .int .i64, .bool], gout := [] }
def cl_l6tTwo8 : List (Nat × Sig) := [(97, sg_l6tPair), (98, sg_l6tAddP), (99, sg_l6tPart10)]
theorem run_l6tTwo8 : run ⟨Tryd.prog, glb, cl_l6tTwo8⟩ [] Tryd.f66 sg_l6tTwo8 (Tryd.f66.body.getD .skip) = tr_l6tTwo8 := by kernel_rfl
theorem om_l6tTwo8 : ΩOK ⟨Tryd.prog, glb, cl_l6tTwo8⟩ (specsOf Fs_l6tTwo8) := (ΩOK_cons cong_l6tPair Tryd.call97 (ΩOK_cons cong_l6tAddP Tryd.call98 (ΩOK_cons cong_l6tPart10 Tryd.call99 ΩOK_nil)))
theorem con_l6tTwo8 : ConOK Tryd.prog glb 66 sg_l6tTwo8 F_l6tTwo8.spec := conOK_tree om_l6tTwo8 mixed Tryd.func66 (by kernel_rfl) run_l6tTwo8

def sg_l6tTwo9 : Sig := { args := [.s (.p (.own 0) 0), .ag [.e (.var 0), .e (.var 1), .e (.var 2), .e (.var 3), .e (.var 4), .e (.var 5), .e (.var 6), .e (.var 7), .e (.var 8), .e (.var 9), .e (.var 10), .e (.var 11)], .s (.e (.int .i64 (0))), .s (.e (.int .i64 (2))), .s (.e (.int .i64 (-1))), .s (.e (.int .i64 (1))), .s (.e (.int .i64 (3))), .s (.e (.bool false))], pre := [⟨[.e (.var 12)], 97⟩], tin := [.int .i64, .int .i64, .int .i64, .int .i64, .int .i64, .int .i64, .int .i64, .int .i64, .int .i64, .int .i64, .int .i64, .int .i64, .bool], gin := [], res := .c (.ag [.e (.var 0), .e (.var 1), .e (.var 2)]), post := [⟨[.e (.var 3)], 97⟩], tout := [.int .i64, .int .i64, .int .i64, .bool], gout := [] }
def cl_l6tTwo9 : List (Nat × Sig) := [(97, sg_l6tPair), (98, sg_l6tAddM), (99, sg_l6tPart10)]
theorem run_l6tTwo9 : run ⟨Tryd.prog, glb, cl_l6tTwo9⟩ [] Tryd.f66 sg_l6tTwo9 (Tryd.f66.body.getD .skip) = tr_l6tTwo9 := by kernel_rfl
theorem om_l6tTwo9 : ΩOK ⟨Tryd.prog, glb, cl_l6tTwo9⟩ (specsOf Fs_l6tTwo9) := (ΩOK_cons cong_l6tPair Tryd.call97 (ΩOK_cons cong_l6tAddM Tryd.call98 (ΩOK_cons cong_l6tPart10 Tryd.call99 ΩOK_nil)))
theorem con_l6tTwo9 : ConOK Tryd.prog glb 66 sg_l6tTwo9 F_l6tTwo9.spec := conOK_tree om_l6tTwo9 mixed Tryd.func66 (by kernel_rfl) run_l6tTwo9

def sg_l6tTwo10 : Sig := { args := [.s (.p (.own 0) 0), .ag [.e (.var 0), .e (.var 1), .e (.var 2), .e (.var 3), .e (.var 4), .e (.var 5), .e (.var 6), .e (.var 7), .e (.var 8), .e (.var 9), .e (.var 10), .e (.var 11)], .s (.e (.int .i64 (0))), .s (.e (.int .i64 (3))), .s (.e (.int .i64 (1))), .s (.e (.int .i64 (1))), .s (.e (.int .i64 (2))), .s (.e (.bool false))], pre := [⟨[.e (.var 12)], 97⟩], tin := [.int .i64, .int .i64, .int .i64, .int .i64, .int .i64, .int .i64, .int .i64, .int .i64, .int .i64, .int .i64, .int .i64, .int .i64, .bool], gin := [], res := .c (.ag [.e (.var 0), .e (.var 1), .e (.var 2)]), post := [⟨[.e (.var 3)], 97⟩], tout := [.int .i64, .int .i64, .int .i64, .bool], gout := [] }
def cl_l6tTwo10 : List (Nat × Sig) := [(97, sg_l6tPair), (98, sg_l6tAddP), (99, sg_l6tPart10)]
theorem run_l6tTwo10 : run ⟨Tryd.prog, glb, cl_l6tTwo10⟩ [] Tryd.f66 sg_l6tTwo10 (Tryd.f66.body.getD .skip) = tr_l6tTwo10 := by kernel_rfl
theorem om_l6tTwo10 : ΩOK ⟨Tryd.prog, glb, cl_l6tTwo10⟩ (specsOf Fs_l6tTwo10) := (ΩOK_cons cong_l6tPair Tryd.call97 (ΩOK_cons cong_l6tAddP Tryd.call98 (ΩOK_cons cong_l6tPart10 Tryd.call99 ΩOK_nil)))
theorem con_l6tTwo10 : ConOK Tryd.prog glb 66 sg_l6tTwo10 F_l6tTwo10.spec := conOK_tree om_l6tTwo10 mixed Tryd.func66 (by kernel_rfl) run_l6tTwo10

def sg_l6tTwo11 : Sig := { args := [.s (.p (.own 0) 0), .ag [.e (.var 0), .e (.var 1), .e (.var 2), .e (.var 3), .e (.var 4), .e (.var 5), .e (.var 6), .e (.var 7), .e (.var 8), .e (.var 9), .e (.var 10), .e (.var 11)], .s (.e (.int .i64 (1))), .s (.e (.int .i64 (2))), .s (.e (.int .i64 (-1))), .s (.e (.int .i64 (0))), .s (.e (.int .i64 (3))), .s (.e (.bool true))], pre := [⟨[.e (.var 12)], 97⟩], tin := [.int .i64, .int .i64, .int .i64, .int .i64, .int .i64, .int .i64, .int .i64, .int .i64, .int .i64, .int .i64, .int .i64, .int .i64, .bool], gin := [], res := .c (.ag [.e (.var 0), .e (.var 1), .e (.var 2)]), post := [⟨[.e (.var 3)], 97⟩], tout := [.int .i64, .int .i64, .int .i64, .bool], gout := [] }
def cl_l6tTwo11 : List (Nat × Sig) := [(97, sg_l6tPair), (98, sg_l6tAddM), (99, sg_l6tPart11)]
theorem run_l6tTwo11 : run ⟨Tryd.prog, glb, cl_l6tTwo11⟩ [] Tryd.f66 sg_l6tTwo11 (Tryd.f66.body.getD .skip) = tr_l6tTwo11 := by kernel_rfl
theorem om_l6tTwo11 : ΩOK ⟨Tryd.prog, glb, cl_l6tTwo11⟩ (specsOf Fs_l6tTwo11) := (ΩOK_cons cong_l6tPair Tryd.call97 (ΩOK_cons cong_l6tAddM Tryd.call98 (ΩOK_cons cong_l6tPart11 Tryd.call99 ΩOK_nil)))
theorem con_l6tTwo11 : ConOK Tryd.prog glb 66 sg_l6tTwo11 F_l6tTwo11.spec := conOK_tree om_l6tTwo11 mixed Tryd.func66 (by kernel_rfl) run_l6tTwo11

def sg_l6tTwo12 : Sig := { args := [.s (.p (.own 0) 0), .ag [.e (.var 0), .e (.var 1), .e (.var 2), .e (.var 3), .e (.var 4), .e (.var 5), .e (.var 6), .e (.var 7), .e (.var 8), .e (.var 9), .e (.var 10), .e (.var 11)], .s (.e (.int .i64 (0))), .s (.e (.int .i64 (2))), .s (.e (.int .i64 (1))), .s (.e (.int .i64 (1))), .s (.e (.int .i64 (3))), .s (.e (.bool true))], pre := [⟨[.e (.var 12)], 97⟩], tin := [.int .i64, .int .i64, .int .i64, .int .i64, .int .i64, .int .i64, .int .i64, .int .i64, .int .i64, .int .i64, .int .i64, .int .i64, .bool], gin := [], res := .c (.ag [.e (.var 0), .e (.var 1), .e (.var 2)]), post := [⟨[.e (.var 3)], 97⟩], tout := [.int .i64, .int .i64, .int .i64, .bool], gout := [] }
def cl_l6tTwo12 : List (Nat × Sig) := [(97, sg_l6tPair), (98, sg_l6tAddP), (99, sg_l6tPart11)]
theorem run_l6tTwo12 : run ⟨Tryd.prog, glb, cl_l6tTwo12⟩ [] Tryd.f66 sg_l6tTwo12 (Tryd.f66.body.getD .skip) = tr_l6tTwo12 := by kernel_rfl
theorem om_l6tTwo12 : ΩOK ⟨Tryd.prog, glb, cl_l6tTwo12⟩ (specsOf Fs_l6tTwo12) := (ΩOK_cons cong_l6tPair Tryd.call97 (ΩOK_cons cong_l6tAddP Tryd.call98 (ΩOK_cons cong_l6tPart11 Tryd.call99 ΩOK_nil)))
theorem con_l6tTwo12 : ConOK Tryd.prog glb 66 sg_l6tTwo12 F_l6tTwo12.spec := conOK_tree om_l6tTwo12 mixed Tryd.func66 (by kernel_rfl) run_l6tTwo12

def sg_l6tTwo13 : Sig := { args := [.s (.p (.own 0) 0), .ag [.e (.var 0), .e (.var 1), .e (.var 2), .e (.var 3), .e (.var 4), .e (.var 5), .e (.var 6), .e (.var 7), .e (.var 8), .e (.var 9), .e (.var 10), .e (.var 11)], .s (.e (.int .i64 (0))), .s (.e (.int .i64 (2))), .s (.e (.int .i64 (-1))), .s (.e (.int .i64 (1))), .s (.e (.int .i64 (3))), .s (.e (.bool true))], pre := [⟨[.e (.var 12)], 97⟩], tin := [.int .i64, .int .i64, .int .i64, .int .i64, .int .i64, .int .i64, .int .i64, .int .i64, .int .i64, .int .i64, .int .i64, .int .i64, .bool], gin := [], res := .c (.ag [.e (.var 0), .e (.var 1), .e (.var 2)]), post := [⟨[.e (.var 3)], 97⟩], tout := [.int .i64, .int .i64, .int .i64, .bool], gout := [] }
def cl_l6tTwo13 : List (Nat × Sig) := [(97, sg_l6tPair), (98, sg_l6tAddM), (99, sg_l6tPart11)]
theorem run_l6tTwo13 : run ⟨Tryd.prog, glb, cl_l6tTwo13⟩ [] Tryd.f66 sg_l6tTwo13 (Tryd.f66.body.getD .skip) = tr_l6tTwo13 := by kernel_rfl
theorem om_l6tTwo13 : ΩOK ⟨Tryd.prog, glb, cl_l6tTwo13⟩ (specsOf Fs_l6tTwo13) := (ΩOK_cons cong_l6tPair Tryd.call97 (ΩOK_cons cong_l6tAddM Tryd.call98 (ΩOK_cons cong_l6tPart11 Tryd.call99 ΩOK_nil)))
theorem con_l6tTwo13 : ConOK Tryd.prog glb 66 sg_l6tTwo13 F_l6tTwo13.spec := conOK_tree om_l6tTwo13 mixed Tryd.func66 (by kernel_rfl) run_l6tTwo13

def sg_l6tTwo14 : Sig := { args := [.s (.p (.own 0) 0), .ag [.e (.var 0), .e (.var 1), .e (.var 2), .e (.var 3), .e (.var 4), .e (.var 5), .e (.var 6), .e (.var 7), .e (.var 8), .e (.var 9), .e (.var 10), .e (.var 11)], .s (.e (.int .i64 (0))), .s (.e (.int .i64 (3))), .s (.e (.int .i64 (1))), .s (.e (.int .i64 (1))), .s (.e (.int .i64 (2))), .s (.e (.bool true))], pre := [⟨[.e (.var 12)], 97⟩], tin := [.int .i64, .int .i64, .int .i64, .int .i64, .int .i64, .int .i64, .int .i64, .int .i64, .int .i64, .int .i64, .int .i64, .int .i64, .bool], gin := [], res := .c (.ag [.e (.var 0), .e (.var 1), .e (.var 2)]), post := [⟨[.e (.var 3)], 97⟩], tout := [.int .i64, .int .i64, .int .i64, .bool], gout := [] }
def cl_l6tTwo14 : List (Nat × Sig) := [(97, sg_l6tPair), (98, sg_l6tAddP), (99, sg_l6tPart11)]
theorem run_l6tTwo14 : run ⟨Tryd.prog, glb, cl_l6tTwo14⟩ [] Tryd.f66 sg_l6tTwo14 (Tryd.f66.body.getD .skip) = tr_l6tTwo14 := by kernel_rfl
theorem om_l6tTwo14 : ΩOK ⟨Tryd.prog, glb, cl_l6tTwo14⟩ (specsOf Fs_l6tTwo14) := (ΩOK_cons cong_l6tPair Tryd.call97 (ΩOK_cons cong_l6tAddP Tryd.call98 (ΩOK_cons cong_l6tPart11 Tryd.call99 ΩOK_nil)))
theorem con_l6tTwo14 : ConOK Tryd.prog glb 66 sg_l6tTwo14 F_l6tTwo14.spec := conOK_tree om_l6tTwo14 mixed Tryd.func66 (by kernel_rfl) run_l6tTwo14

def sg_l6tTwo15 : Sig := { args := [.s (.p (.own 0) 0), .ag [.e (.var 0), .e (.var 1), .e (.var 2), .e (.var 3), .e (.var 4), .e (.var 5), .e (.var 6), .e (.var 7), .e (.var 8), .e (.var 9), .e (.var 10), .e (.var 11)], .s (.e (.int .i64 (0))), .s (.e (.int .i64 (3))), .s (.e (.int .i64 (-1))), .s (.e (.int .i64 (1))), .s (.e (.int .i64 (2))), .s (.e (.bool false))], pre := [⟨[.e (.var 12)], 97⟩], tin := [.int .i64, .int .i64, .int .i64, .int .i64, .int .i64, .int .i64, .int .i64, .int .i64, .int .i64, .int .i64, .int .i64, .int .i64, .bool], gin := [], res := .c (.ag [.e (.var 0), .e (.var 1), .e (.var 2)]), post := [⟨[.e (.var 3)], 97⟩], tout := [.int .i64, .int .i64, .int .i64, .bool], gout := [] }
def cl_l6tTwo15 : List (Nat × Sig) := [(97, sg_l6tPair), (98, sg_l6tAddM), (99, sg_l6tPart10)]
theorem run_l6tTwo15 : run ⟨Tryd.prog, glb, cl_l6tTwo15⟩ [] Tryd.f66 sg_l6tTwo15 (Tryd.f66.body.getD .skip) = tr_l6tTwo15 := by kernel_rfl
theorem om_l6tTwo15 : ΩOK ⟨Tryd.prog, glb, cl_l6tTwo15⟩ (specsOf Fs_l6tTwo15) := (ΩOK_cons cong_l6tPair Tryd.call97 (ΩOK_cons cong_l6tAddM Tryd.call98 (ΩOK_cons cong_l6tPart10 Tryd.call99 ΩOK_nil)))
theorem con_l6tTwo15 : ConOK Tryd.prog glb 66 sg_l6tTwo15 F_l6tTwo15.spec := conOK_tree om_l6tTwo15 mixed Tryd.func66 (by kernel_rfl) run_l6tTwo15

def sg_sTableOf : Sig := { args := [.ag [.e (.var 0), .e (.var 1), .e (.var 2), .e (.var 3), .e (.var 4), .e (.var 5), .e (.var 6), .e (.var 7), .e (.var 8), .e (.var 9), .e (.var 10), .e (.var 11)]], pre := [], tin := [.int .i64, .int .i64, .int .i64, .int .i64, .int .i64, .int .i64, .int .i64, .int .i64, .int .i64, .int .i64, .int .i64, .int .i64], gin := [], res := .tu [.ag [.e (.var 0), .e (.var 1), .e (.var 2), .e (.var 3), .e (.var 4), .e (.var 5), .e (.var 6), .e (.var 7), .e (.var 8), .e (.var 9), .e (.var 10), .e (.var 11), .e (.var 12), .e (.var 13), .e (.var 14), .e (.var 15), .e (.var 16), .e (.var 17), .e (.var 18), .e (.var 19), .e (.var 20), .e (.var 21), .e (.var 22), .e (.var 23), .e (.var 24), .e (.var 25), .e (.var 26), .e (.var 27), .e (.var 28), .e (.var 29), .e (.var 30), .e (.var 31), .e (.var 32), .e (.var 33), .e (.var 34), .e (.var 35), .e (.var 36), .e (.var 37), .e (.var 38), .e (.var 39), .e (.var 40), .e (.var 41), .e (.var 42), .e (.var 43), .e (.var 44), .e (.var 45), .e (.var 46), .e (.var 47)], .s (.e (.var 48))], post := [], tout := [.int .i64, .int .i64, .int .i64, .int .i64, .int .i64, .int .i64, .int .i64, .int .i64, .int .i64, .int .i64, .int .i64, .int .i64, .int .i64, .int .i64, .int .i64, .int .i64, .int .i64, .int .i64, .int .i64, .int .i64, .int .i64, .int .i64, .int .i64, .int .i64, .int .i64, .int .i64, .int .i64, .int .i64, .int .i64, .int .i64, .int .i64, .int .i64, .int .i64, .int .i64, .int .i64, .int .i64, .int .i64, .int .i64, .int .i64, .int .i64, .int .i64, .int .i64, .int .i64, .int .i64, .int .i64, .int .i64, .int .i64, .int .i64, .bool], gout := [] }
def cl_sTableOf : List (Nat × Sig) := [(64, sg_sMatValid), (65, sg_l6tPowersA), (65, sg_l6tPowersB), (65, sg_l6tPowersC), (65, sg_l6tPowersD), (66, sg_l6tTwo2), (66, sg_l6tTwo3), (66, sg_l6tTwo6), (66, sg_l6tTwo7), (66, sg_l6tTwo8), (66, sg_l6tTwo9), (66, sg_l6tTwo10), (66, sg_l6tTwo11), (66, sg_l6tTwo12), (66, sg_l6tTwo13), (66, sg_l6tTwo14), (66, sg_l6tTwo15)]
theorem run_sTableOf : run ⟨Tryd.prog, glb, cl_sTableOf⟩ [] Tryd.f24 sg_sTableOf (Tryd.f24.body.getD .skip) = tr_sTableOf := by kernel_rfl
theorem om_sTableOf : ΩOK ⟨Tryd.prog, glb, cl_sTableOf⟩ (specsOf Fs_sTableOf) := (ΩOK_cons cong_sMatValid Tryd.call64 (ΩOK_cons con_l6tPowersA Tryd.call65 (ΩOK_cons con_l6tPowersB Tryd.call65 (ΩOK_cons con_l6tPowersC Tryd.call65 (ΩOK_cons con_l6tPowersD Tryd.call65 (ΩOK_cons con_l6tTwo2 Tryd.call66 (ΩOK_cons con_l6tTwo3 Tryd.call66 (ΩOK_cons con_l6tTwo6 Tryd.call66 (ΩOK_cons con_l6tTwo7 Tryd.call66 (ΩOK_cons con_l6tTwo8 Tryd.call66 (ΩOK_cons con_l6tTwo9 Tryd.call66 (ΩOK_cons con_l6tTwo10 Tryd.call66 (ΩOK_cons con_l6tTwo11 Tryd.call66 (ΩOK_cons con_l6tTwo12 Tryd.call66 (ΩOK_cons con_l6tTwo13 Tryd.call66 (ΩOK_cons con_l6tTwo14 Tryd.call66 (ΩOK_cons con_l6tTwo15 Tryd.call66 ΩOK_nil)))))))))))))))))
theorem con_sTableOf : ConOK Tryd.prog glb 24 sg_sTableOf F_sTableOf.spec := conOK_tree om_sTableOf mixed Tryd.func24 (by kernel_rfl) run_sTableOf
theorem cong_sTableOf : ConOK Tryd.prog glb 24 sg_sTableOf G_sTableOf.spec := con_sTableOf.as as_sTableOf

def sg_l5Four : Sig := { args := [.ag [.e (.var 0), .e (.var 1), .e (.var 2)], .ag [.e (.var 3), .e (.var 4), .e (.var 5)], .ag [.e (.var 6), .e (.var 7), .e (.var 8)], .ag [.e (.var 9), .e (.var 10), .e (.var 11)], .s (.e (.var 12))], pre := [], tin := [.int .i64, .int .i64, .int .i64, .int .i64, .int .i64, .int .i64, .int .i64, .int .i64, .int .i64, .int .i64, .int .i64, .int .i64, .bool], gin := [], res := .tu [.ag [.e (.var 0), .e (.var 1), .e (.var 2), .e (.var 3), .e (.var 4), .e (.var 5), .e (.var 6), .e (.var 7), .e (.var 8), .e (.var 9), .e (.var 10), .e (.var 11)], .s (.e (.var 12))], post := [], tout := [.int .i64, .int .i64, .int .i64, .int .i64, .int .i64, .int .i64, .int .i64, .int .i64, .int .i64, .int .i64, .int .i64, .int .i64, .bool], gout := [] }
def cl_l5Four : List (Nat × Sig) := []
theorem run_l5Four : run ⟨Tryd.prog, glb, cl_l5Four⟩ [] Tryd.f116 sg_l5Four (Tryd.f116.body.getD .skip) = tr_l5Four := by kernel_rfl
theorem om_l5Four : ΩOK ⟨Tryd.prog, glb, cl_l5Four⟩ (specsOf Fs_l5Four) := ΩOK_nil
theorem con_l5Four : ConOK Tryd.prog glb 116 sg_l5Four F_l5Four.spec := conOK_tree om_l5Four mixed Tryd.func116 (by kernel_rfl) run_l5Four
theorem cong_l5Four : ConOK Tryd.prog glb 116 sg_l5Four G_l5Four.spec := con_l5Four.as as_l5Four

def sg_sMatTimes : Sig := { args := [.ag [.e (.var 0), .e (.var 1), .e (.var 2), .e (.var 3), .e (.var 4), .e (.var 5), .e (.var 6), .e (.var 7), .e (.var 8), .e (.var 9), .e (.var 10), .e (.var 11)], .ag [.e (.var 12), .e (.var 13), .e (.var 14), .e (.var 15), .e (.var 16), .e (.var 17), .e (.var 18), .e (.var 19), .e (.var 20), .e (.var 21), .e (.var 22), .e (.var 23)]], pre := [], tin := [.int .i64, .int .i64, .int .i64, .int .i64, .int .i64, .int .i64, .int .i64, .int .i64, .int .i64, .int .i64, .int .i64, .int .i64, .int .i64, .int .i64, .int .i64, .int .i64, .int .i64, .int .i64, .int .i64, .int .i64, .int .i64, .int .i64, .int .i64, .int .i64], gin := [], res := .tu [.ag [.e (.var 0), .e (.var 1), .e (.var 2), .e (.var 3), .e (.var 4), .e (.var 5), .e (.var 6), .e (.var 7), .e (.var 8), .e (.var 9), .e (.var 10), .e (.var 11)], .s (.e (.var 12))], post := [], tout := [.int .i64, .int .i64, .int .i64, .int .i64, .int .i64, .int .i64, .int .i64, .int .i64, .int .i64, .int .i64, .int .i64, .int .i64, .bool], gout := [] }
def cl_sMatTimes : List (Nat × Sig) := [(64, sg_sMatValid), (121, sg_l3Inner), (116, sg_l5Four)]
theorem run_sMatTimes : run ⟨Tryd.prog, glb, cl_sMatTimes⟩ [] Tryd.f118 sg_sMatTimes (Tryd.f118.body.getD .skip) = tr_sMatTimes := by kernel_rfl
theorem om_sMatTimes : ΩOK ⟨Tryd.prog, glb, cl_sMatTimes⟩ (specsOf Fs_sMatTimes) := (ΩOK_cons cong_sMatValid Tryd.call64 (ΩOK_cons cong_l3Inner Tryd.call121 (ΩOK_cons cong_l5Four Tryd.call116 ΩOK_nil)))
theorem con_sMatTimes : ConOK Tryd.prog glb 118 sg_sMatTimes F_sMatTimes.spec := conOK_tree om_sMatTimes mixed Tryd.func118 (by kernel_rfl) run_sMatTimes
theorem cong_sMatTimes : ConOK Tryd.prog glb 118 sg_sMatTimes G_sMatTimes.spec := con_sMatTimes.as as_sMatTimes

def sg_wholeM : Sig := { args := [.s (.e (.int .i64 (-1)))], pre := [], tin := [], gin := [], res := .c (.ag [.e (.int .i64 (-1)), .e (.int .i64 (0)), .e (.int .i64 (1))]), post := [], tout := [], gout := [] }
def cl_wholeM : List (Nat × Sig) := []
theorem run_wholeM : run ⟨Tryd.prog, glb, cl_wholeM⟩ [] Tryd.f54 sg_wholeM (Tryd.f54.body.getD .skip) = tr_wholeM := by kernel_rfl
theorem om_wholeM : ΩOK ⟨Tryd.prog, glb, cl_wholeM⟩ (specsOf Fs_wholeM) := ΩOK_nil
theorem con_wholeM : ConOK Tryd.prog glb 54 sg_wholeM F_wholeM.spec := conOK_tree om_wholeM mixed Tryd.func54 (by kernel_rfl) run_wholeM

def sg_l5One : Sig := { args := [.ag [.e (.var 0), .e (.var 1), .e (.var 2)], .ag [.e (.var 3), .e (.var 4), .e (.var 5)]], pre := [], tin := [.int .i64, .int .i64, .int .i64, .int .i64, .int .i64, .int .i64], gin := [], res := .c (.ag [.e (.var 0), .e (.var 1), .e (.var 2), .e (.var 3), .e (.var 4), .e (.var 5), .e (.var 6), .e (.var 7), .e (.var 8), .e (.var 9), .e (.var 10), .e (.var 11)]), post := [], tout := [.int .i64, .int .i64, .int .i64, .int .i64, .int .i64, .int .i64, .int .i64, .int .i64, .int .i64, .int .i64, .int .i64, .int .i64], gout := [] }
def cl_l5One : List (Nat × Sig) := []
theorem run_l5One : run ⟨Tryd.prog, glb, cl_l5One⟩ [] Tryd.f119 sg_l5One (Tryd.f119.body.getD .skip) = tr_l5One := by kernel_rfl
theorem om_l5One : ΩOK ⟨Tryd.prog, glb, cl_l5One⟩ (specsOf Fs_l5One) := ΩOK_nil
theorem con_l5One : ConOK Tryd.prog glb 119 sg_l5One F_l5One.spec := conOK_tree om_l5One mixed Tryd.func119 (by kernel_rfl) run_l5One

def sg_pick : Sig := { args := [.s (.p (.own 0) 0), .s (.e (.var 0))], pre := [⟨[.e (.var 1), .e (.var 2)], 113⟩], tin := [.int .i64, .sl, .int .i64, .row .u8 1], gin := [(1, 3, 1)], res := .c (.s (.e (.var 0))), post := [⟨[.e (.var 1), .e (.var 2)], 113⟩], tout := [.int .i64, .sl, .int .i64], gout := [] }
def cl_pick : List (Nat × Sig) := []
theorem run_pick : run ⟨Tryd.prog, glb, cl_pick⟩ [] Tryd.f85 sg_pick (Tryd.f85.body.getD .skip) = tr_pick := by kernel_rfl
theorem om_pick : ΩOK ⟨Tryd.prog, glb, cl_pick⟩ (specsOf Fs_pick) := ΩOK_nil
theorem con_pick : ConOK Tryd.prog glb 85 sg_pick F_pick.spec := conOK_tree om_pick mixed Tryd.func85 (by kernel_rfl) run_pick

def sg_sMatAdjoint : Sig := { args := [.ag [.e (.var 0), .e (.var 1), .e (.var 2), .e (.var 3), .e (.var 4), .e (.var 5), .e (.var 6), .e (.var 7), .e (.var 8), .e (.var 9), .e (.var 10), .e (.var 11)]], pre := [], tin := [.int .i64, .int .i64, .int .i64, .int .i64, .int .i64, .int .i64, .int .i64, .int .i64, .int .i64, .int .i64, .int .i64, .int .i64], gin := [], res := .tu [.ag [.e (.var 0), .e (.var 1), .e (.var 2), .e (.var 3), .e (.var 4), .e (.var 5), .e (.var 6), .e (.var 7), .e (.var 8), .e (.var 9), .e (.var 10), .e (.var 11)], .s (.e (.var 12))], post := [], tout := [.int .i64, .int .i64, .int .i64, .int .i64, .int .i64, .int .i64, .int .i64, .int .i64, .int .i64, .int .i64, .int .i64, .int .i64, .bool], gout := [] }
def cl_sMatAdjoint : List (Nat × Sig) := [(111, sg_sFracMirror), (116, sg_l5Four)]
theorem run_sMatAdjoint : run ⟨Tryd.prog, glb, cl_sMatAdjoint⟩ [] Tryd.f117 sg_sMatAdjoint (Tryd.f117.body.getD .skip) = tr_sMatAdjoint := by kernel_rfl
theorem om_sMatAdjoint : ΩOK ⟨Tryd.prog, glb, cl_sMatAdjoint⟩ (specsOf Fs_sMatAdjoint) := (ΩOK_cons cong_sFracMirror Tryd.call111 (ΩOK_cons cong_l5Four Tryd.call116 ΩOK_nil))
theorem con_sMatAdjoint : ConOK Tryd.prog glb 117 sg_sMatAdjoint F_sMatAdjoint.spec := conOK_tree om_sMatAdjoint mixed Tryd.func117 (by kernel_rfl) run_sMatAdjoint

def sg_sMatRotator : Sig := { args := [.s (.e (.var 0)), .s (.e (.var 1))], pre := [], tin := [.int .i64, .int .i64], gin := [], res := .tu [.ag [.e (.var 0), .e (.var 1), .e (.var 2), .e (.var 3), .e (.var 4), .e (.var 5), .e (.var 6), .e (.var 7), .e (.var 8), .e (.var 9), .e (.var 10), .e (.var 11)], .s (.e (.var 12))], post := [], tout := [.int .i64, .int .i64, .int .i64, .int .i64, .int .i64, .int .i64, .int .i64, .int .i64, .int .i64, .int .i64, .int .i64, .int .i64, .bool], gout := [] }
def cl_sMatRotator : List (Nat × Sig) := [(115, sg_l5Direction), (116, sg_l5Four)]
theorem run_sMatRotator : run ⟨Tryd.prog, glb, cl_sMatRotator⟩ [] Tryd.f103 sg_sMatRotator (Tryd.f103.body.getD .skip) = tr_sMatRotator := by kernel_rfl
theorem om_sMatRotator : ΩOK ⟨Tryd.prog, glb, cl_sMatRotator⟩ (specsOf Fs_sMatRotator) := (ΩOK_cons cong_l5Direction Tryd.call115 (ΩOK_cons cong_l5Four Tryd.call116 ΩOK_nil))
theorem con_sMatRotator : ConOK Tryd.prog glb 103 sg_sMatRotator F_sMatRotator.spec := conOK_tree om_sMatRotator mixed Tryd.func103 (by kernel_rfl) run_sMatRotator

def sg_l5PhaseK : Sig := { args := [.s (.e (.var 0))], pre := [], tin := [.int .i64], gin := [], res := .c (.ag [.e (.var 0), .e (.var 1), .e (.var 2)]), post := [], tout := [.int .i64, .int .i64, .int .i64], gout := [] }
def cl_l5PhaseK : List (Nat × Sig) := []
theorem run_l5PhaseK : run ⟨Tryd.prog, glb, cl_l5PhaseK⟩ [] Tryd.f120 sg_l5PhaseK (Tryd.f120.body.getD .skip) = tr_l5PhaseK := by kernel_rfl
theorem om_l5PhaseK : ΩOK ⟨Tryd.prog, glb, cl_l5PhaseK⟩ (specsOf Fs_l5PhaseK) := ΩOK_nil
theorem con_l5PhaseK : ConOK Tryd.prog glb 120 sg_l5PhaseK F_l5PhaseK.spec := conOK_tree om_l5PhaseK mixed Tryd.func120 (by kernel_rfl) run_l5PhaseK

def sg_sMatPlate : Sig := { args := [.s (.e (.var 0)), .s (.e (.var 1)), .s (.e (.var 2))], pre := [], tin := [.int .i64, .int .i64, .int .i64], gin := [], res := .tu [.ag [.e (.var 0), .e (.var 1), .e (.var 2), .e (.var 3), .e (.var 4), .e (.var 5), .e (.var 6), .e (.var 7), .e (.var 8), .e (.var 9), .e (.var 10), .e (.var 11)], .s (.e (.var 12))], post := [], tout := [.int .i64, .int .i64, .int .i64, .int .i64, .int .i64, .int .i64, .int .i64, .int .i64, .int .i64, .int .i64, .int .i64, .int .i64, .bool], gout := [] }
def cl_sMatPlate : List (Nat × Sig) := [(103, sg_sMatRotator), (89, sg_l6In), (117, sg_sMatAdjoint), (120, sg_l5PhaseK), (119, sg_l5One), (118, sg_sMatTimes)]
theorem run_sMatPlate : run ⟨Tryd.prog, glb, cl_sMatPlate⟩ [] Tryd.f104 sg_sMatPlate (Tryd.f104.body.getD .skip) = tr_sMatPlate := by kernel_rfl
theorem om_sMatPlate : ΩOK ⟨Tryd.prog, glb, cl_sMatPlate⟩ (specsOf Fs_sMatPlate) := (ΩOK_cons con_sMatRotator Tryd.call103 (ΩOK_cons cong_l6In Tryd.call89 (ΩOK_cons con_sMatAdjoint Tryd.call117 (ΩOK_cons con_l5PhaseK Tryd.call120 (ΩOK_cons con_l5One Tryd.call119 (ΩOK_cons cong_sMatTimes Tryd.call118 ΩOK_nil))))))
theorem con_sMatPlate : ConOK Tryd.prog glb 104 sg_sMatPlate F_sMatPlate.spec := conOK_tree om_sMatPlate mixed Tryd.func104 (by kernel_rfl) run_sMatPlate

def sg_sMatFilter : Sig := { args := [.s (.e (.var 0)), .s (.e (.var 1))], pre := [], tin := [.int .i64, .int .i64], gin := [], res := .tu [.ag [.e (.var 0), .e (.var 1), .e (.var 2), .e (.var 3), .e (.var 4), .e (.var 5), .e (.var 6), .e (.var 7), .e (.var 8), .e (.var 9), .e (.var 10), .e (.var 11)], .s (.e (.var 12))], post := [], tout := [.int .i64, .int .i64, .int .i64, .int .i64, .int .i64, .int .i64, .int .i64, .int .i64, .int .i64, .int .i64, .int .i64, .int .i64, .bool], gout := [] }
def cl_sMatFilter : List (Nat × Sig) := [(115, sg_l5Direction), (112, sg_sFracTimes), (116, sg_l5Four)]
theorem run_sMatFilter : run ⟨Tryd.prog, glb, cl_sMatFilter⟩ [] Tryd.f105 sg_sMatFilter (Tryd.f105.body.getD .skip) = tr_sMatFilter := by kernel_rfl
theorem om_sMatFilter : ΩOK ⟨Tryd.prog, glb, cl_sMatFilter⟩ (specsOf Fs_sMatFilter) := (ΩOK_cons cong_l5Direction Tryd.call115 (ΩOK_cons cong_sFracTimes Tryd.call112 (ΩOK_cons cong_l5Four Tryd.call116 ΩOK_nil)))
theorem con_sMatFilter : ConOK Tryd.prog glb 105 sg_sMatFilter F_sMatFilter.spec := conOK_tree om_sMatFilter mixed Tryd.func105 (by kernel_rfl) run_sMatFilter

def sg_l6tDiag : Sig := { args := [.ag [.e (.var 0), .e (.var 1), .e (.var 2)]], pre := [], tin := [.int .i64, .int .i64, .int .i64], gin := [], res := .c (.ag [.e (.var 0), .e (.var 1), .e (.var 2), .e (.var 3), .e (.var 4), .e (.var 5), .e (.var 6), .e (.var 7), .e (.var 8), .e (.var 9), .e (.var 10), .e (.var 11), .e (.var 12), .e (.var 13), .e (.var 14), .e (.var 15), .e (.var 16), .e (.var 17), .e (.var 18), .e (.var 19), .e (.var 20), .e (.var 21), .e (.var 22), .e (.var 23), .e (.var 24), .e (.var 25), .e (.var 26), .e (.var 27), .e (.var 28), .e (.var 29), .e (.var 30), .e (.var 31), .e (.var 32), .e (.var 33), .e (.var 34), .e (.var 35), .e (.var 36), .e (.var 37), .e (.var 38), .e (.var 39), .e (.var 40), .e (.var 41), .e (.var 42), .e (.var 43), .e (.var 44), .e (.var 45), .e (.var 46), .e (.var 47)]), post := [], tout := [.int .i64, .int .i64, .int .i64, .int .i64, .int .i64, .int .i64, .int .i64, .int .i64, .int .i64, .int .i64, .int .i64, .int .i64, .int .i64, .int .i64, .int .i64, .int .i64, .int .i64, .int .i64, .int .i64, .int .i64, .int .i64, .int .i64, .int .i64, .int .i64, .int .i64, .int .i64, .int .i64, .int .i64, .int .i64, .int .i64, .int .i64, .int .i64, .int .i64, .int .i64, .int .i64, .int .i64, .int .i64, .int .i64, .int .i64, .int .i64, .int .i64, .int .i64, .int .i64, .int .i64, .int .i64, .int .i64, .int .i64, .int .i64], gout := [] }
def cl_l6tDiag : List (Nat × Sig) := []
theorem run_l6tDiag : run ⟨Tryd.prog, glb, cl_l6tDiag⟩ [] Tryd.f48 sg_l6tDiag (Tryd.f48.body.getD .skip) = tr_l6tDiag := by kernel_rfl
theorem om_l6tDiag : ΩOK ⟨Tryd.prog, glb, cl_l6tDiag⟩ (specsOf Fs_l6tDiag) := ΩOK_nil
theorem con_l6tDiag : ConOK Tryd.prog glb 48 sg_l6tDiag F_l6tDiag.spec := conOK_tree om_l6tDiag mixed Tryd.func48 (by kernel_rfl) run_l6tDiag

def sg_l6tUnit : Sig := { args := [], pre := [], tin := [], gin := [], res := .c (.ag [.e (.var 0), .e (.var 1), .e (.var 2), .e (.var 3), .e (.var 4), .e (.var 5), .e (.var 6), .e (.var 7), .e (.var 8), .e (.var 9), .e (.var 10), .e (.var 11), .e (.var 12), .e (.var 13), .e (.var 14), .e (.var 15), .e (.var 16), .e (.var 17), .e (.var 18), .e (.var 19), .e (.var 20), .e (.var 21), .e (.var 22), .e (.var 23), .e (.var 24), .e (.var 25), .e (.var 26), .e (.var 27), .e (.var 28), .e (.var 29), .e (.var 30), .e (.var 31), .e (.var 32), .e (.var 33), .e (.var 34), .e (.var 35), .e (.var 36), .e (.var 37), .e (.var 38), .e (.var 39), .e (.var 40), .e (.var 41), .e (.var 42), .e (.var 43), .e (.var 44), .e (.var 45), .e (.var 46), .e (.var 47)]), post := [], tout := [.int .i64, .int .i64, .int .i64, .int .i64, .int .i64, .int .i64, .int .i64, .int .i64, .int .i64, .int .i64, .int .i64, .int .i64, .int .i64, .int .i64, .int .i64, .int .i64, .int .i64, .int .i64, .int .i64, .int .i64, .int .i64, .int .i64, .int .i64, .int .i64, .int .i64, .int .i64, .int .i64, .int .i64, .int .i64, .int .i64, .int .i64, .int .i64, .int .i64, .int .i64, .int .i64, .int .i64, .int .i64, .int .i64, .int .i64, .int .i64, .int .i64, .int .i64, .int .i64, .int .i64, .int .i64, .int .i64, .int .i64, .int .i64], gout := [] }
def cl_l6tUnit : List (Nat × Sig) := [(48, sg_l6tDiag)]
theorem run_l6tUnit : run ⟨Tryd.prog, glb, cl_l6tUnit⟩ [] Tryd.f101 sg_l6tUnit (Tryd.f101.body.getD .skip) = tr_l6tUnit := by kernel_rfl
theorem om_l6tUnit : ΩOK ⟨Tryd.prog, glb, cl_l6tUnit⟩ (specsOf Fs_l6tUnit) := (ΩOK_cons con_l6tDiag Tryd.call48 ΩOK_nil)
theorem con_l6tUnit : ConOK Tryd.prog glb 101 sg_l6tUnit F_l6tUnit.spec := conOK_tree om_l6tUnit mixed Tryd.func101 (by kernel_rfl) run_l6tUnit

def sg_pickC : Sig := { args := [.s (.p (.own 0) 0), .s (.e (.var 0))], pre := [⟨[.e (.var 1), .e (.var 2)], 113⟩], tin := [.int .i64, .sl, .int .i64], gin := [], res := .c (.s (.e (.var 0))), post := [⟨[.e (.var 1), .e (.var 2)], 113⟩], tout := [.int .i64, .sl, .int .i64], gout := [] }
theorem con_pickC {cb : CodeB} (hk : CodeOk cb) (hG : Known cb (glb ++ cb.tail)) : ConOK Tryd.prog (glb ++ cb.tail) 85 sg_pickC (G_pick cb).spec := conOK_ghost (t := 113) hk hG con_pick.more (ghost_pick hk)


def sg_openC : Sig := { args := [.s (.e (.var 0))], pre := [], tin := [.sl], gin := [], res := .c (.s (.p (.own 0) 0)), post := [⟨[.e (.var 0), .e (.var 1)], 113⟩], tout := [.sl, .int .i64], gout := [] }
set_option maxHeartbeats 800000 in
set_option maxRecDepth 1000000 in
theorem open_short (a : Option Addr) (len cap : Nat) (w : World) (hl : len ≤ 2000) :
    Calls Tryd.prog 44 #[.slice a len cap] w fun e w' => e = .returned (.pointer (some ⟨w.heap.size, 0, none⟩)) ∧ w' = w.alloc (.cells #[.slice a len cap, .int .i64 0] 113) := by
  go_enter Tryd.func44, Tryd.ntmps44
  go_wp2
  go_ret
  exact ⟨rfl, rfl⟩
set_option maxHeartbeats 800000 in
set_option maxRecDepth 1000000 in
theorem open_long (a : Addr) (len cap : Nat) (w : World) (hl : ¬ len ≤ 2000) (hc : len ≤ cap) (hm : len ≤ 1048576) :
    Calls Tryd.prog 44 #[.slice (some a) len cap] w fun e w' => e = .returned (.pointer (some ⟨w.heap.size, 0, none⟩)) ∧ w' = w.alloc (.cells #[.slice (some a) 2000 cap, .int .i64 0] 113) := by
  go_enter Tryd.func44, Tryd.ntmps44
  go_wp2
  go_ret
  exact ⟨rfl, rfl⟩
theorem con_openC {cb : CodeB} (_ : CodeOk cb) (_ : Known cb (glb ++ cb.tail)) : ConOK Tryd.prog (glb ++ cb.tail) 44 sg_openC (G_open cb).spec := conOK_open (t := 113) open_short open_long


def sg_l91Frac : Sig := { args := [.s (.p (.own 0) 0)], pre := [⟨[.e (.var 0), .e (.var 1)], 113⟩], tin := [.sl, .int .i64], gin := [], res := .c (.ag [.e (.var 0), .e (.var 1), .e (.var 2)]), post := [⟨[.e (.var 3), .e (.var 4)], 113⟩], tout := [.int .i64, .int .i64, .int .i64, .sl, .int .i64], gout := [] }
def cl_l91Frac : List (Nat × Sig) := [(85, sg_pickC), (86, sg_l2Low)]
theorem run_l91Frac : (fun H : List (Nat × List Sc) => run ⟨Tryd.prog, glb ++ H, cl_l91Frac⟩ [] Tryd.f84 sg_l91Frac (Tryd.f84.body.getD .skip)) = fun _ => tr_l91Frac := by kernel_rfl
theorem om_l91Frac {cb : CodeB} (hk : CodeOk cb) (hG : Known cb (glb ++ cb.tail)) : ΩOK ⟨Tryd.prog, glb ++ cb.tail, cl_l91Frac⟩ (specsOf (Fs_l91Frac cb)) := (ΩOK_cons (con_pickC hk hG) Tryd.call85 (ΩOK_cons cong_l2Low.more Tryd.call86 ΩOK_nil))
theorem con_l91Frac {cb : CodeB} (hk : CodeOk cb) (hG : Known cb (glb ++ cb.tail)) : ConOK Tryd.prog (glb ++ cb.tail) 84 sg_l91Frac (F_l91Frac cb).spec := conOK_tree (om_l91Frac hk hG) mixed Tryd.func84 (by kernel_rfl) (congrFun run_l91Frac cb.tail)

def sg_l91Real : Sig := { args := [.s (.p (.own 0) 0)], pre := [⟨[.e (.var 0), .e (.var 1)], 113⟩], tin := [.sl, .int .i64], gin := [], res := .c (.ag [.e (.var 0), .e (.var 1), .e (.var 2)]), post := [⟨[.e (.var 3), .e (.var 4)], 113⟩], tout := [.int .i64, .int .i64, .int .i64, .sl, .int .i64], gout := [] }
def cl_l91Real : List (Nat × Sig) := [(85, sg_pickC), (84, sg_l91Frac), (86, sg_l2Low)]
theorem run_l91Real : (fun H : List (Nat × List Sc) => run ⟨Tryd.prog, glb ++ H, cl_l91Real⟩ [] Tryd.f43 sg_l91Real (Tryd.f43.body.getD .skip)) = fun _ => tr_l91Real := by kernel_rfl
theorem om_l91Real {cb : CodeB} (hk : CodeOk cb) (hG : Known cb (glb ++ cb.tail)) : ΩOK ⟨Tryd.prog, glb ++ cb.tail, cl_l91Real⟩ (specsOf (Fs_l91Real cb)) := (ΩOK_cons (con_pickC hk hG) Tryd.call85 (ΩOK_cons (con_l91Frac hk hG) Tryd.call84 (ΩOK_cons cong_l2Low.more Tryd.call86 ΩOK_nil)))
theorem con_l91Real {cb : CodeB} (hk : CodeOk cb) (hG : Known cb (glb ++ cb.tail)) : ConOK Tryd.prog (glb ++ cb.tail) 43 sg_l91Real (F_l91Real cb).spec := conOK_tree (om_l91Real hk hG) mixed Tryd.func43 (by kernel_rfl) (congrFun run_l91Real cb.tail)

def sg_l91Direction : Sig := { args := [.s (.p (.own 0) 0)], pre := [⟨[.e (.var 0), .e (.var 1)], 113⟩], tin := [.sl, .int .i64], gin := [], res := .tu [.s (.e (.var 0)), .s (.e (.var 1))], post := [⟨[.e (.var 2), .e (.var 3)], 113⟩], tout := [.int .i64, .int .i64, .sl, .int .i64], gout := [] }
def cl_l91Direction : List (Nat × Sig) := [(85, sg_pickC)]
theorem run_l91Direction : (fun H : List (Nat × List Sc) => run ⟨Tryd.prog, glb ++ H, cl_l91Direction⟩ [] Tryd.f102 sg_l91Direction (Tryd.f102.body.getD .skip)) = fun _ => tr_l91Direction := by kernel_rfl
theorem om_l91Direction {cb : CodeB} (hk : CodeOk cb) (hG : Known cb (glb ++ cb.tail)) : ΩOK ⟨Tryd.prog, glb ++ cb.tail, cl_l91Direction⟩ (specsOf (Fs_l91Direction cb)) := (ΩOK_cons (con_pickC hk hG) Tryd.call85 ΩOK_nil)
theorem con_l91Direction {cb : CodeB} (hk : CodeOk cb) (hG : Known cb (glb ++ cb.tail)) : ConOK Tryd.prog (glb ++ cb.tail) 102 sg_l91Direction (F_l91Direction cb).spec := conOK_tree (om_l91Direction hk hG) mixed Tryd.func102 (by kernel_rfl) (congrFun run_l91Direction cb.tail)

def sg_l91Mat : Sig := { args := [.s (.p (.own 0) 0)], pre := [⟨[.e (.var 0), .e (.var 1)], 113⟩], tin := [.sl, .int .i64], gin := [], res := .c (.ag [.e (.var 0), .e (.var 1), .e (.var 2), .e (.var 3), .e (.var 4), .e (.var 5), .e (.var 6), .e (.var 7), .e (.var 8), .e (.var 9), .e (.var 10), .e (.var 11)]), post := [⟨[.e (.var 12), .e (.var 13)], 113⟩], tout := [.int .i64, .int .i64, .int .i64, .int .i64, .int .i64, .int .i64, .int .i64, .int .i64, .int .i64, .int .i64, .int .i64, .int .i64, .sl, .int .i64], gout := [] }
def cl_l91Mat : List (Nat × Sig) := [(85, sg_pickC), (102, sg_l91Direction), (103, sg_sMatRotator), (104, sg_sMatPlate), (105, sg_sMatFilter), (84, sg_l91Frac)]
theorem run_l91Mat : (fun H : List (Nat × List Sc) => run ⟨Tryd.prog, glb ++ H, cl_l91Mat⟩ [] Tryd.f76 sg_l91Mat (Tryd.f76.body.getD .skip)) = fun _ => tr_l91Mat := by kernel_rfl
theorem om_l91Mat {cb : CodeB} (hk : CodeOk cb) (hG : Known cb (glb ++ cb.tail)) : ΩOK ⟨Tryd.prog, glb ++ cb.tail, cl_l91Mat⟩ (specsOf (Fs_l91Mat cb)) := (ΩOK_cons (con_pickC hk hG) Tryd.call85 (ΩOK_cons (con_l91Direction hk hG) Tryd.call102 (ΩOK_cons con_sMatRotator.more Tryd.call103 (ΩOK_cons con_sMatPlate.more Tryd.call104 (ΩOK_cons con_sMatFilter.more Tryd.call105 (ΩOK_cons (con_l91Frac hk hG) Tryd.call84 ΩOK_nil))))))
theorem con_l91Mat {cb : CodeB} (hk : CodeOk cb) (hG : Known cb (glb ++ cb.tail)) : ConOK Tryd.prog (glb ++ cb.tail) 76 sg_l91Mat (F_l91Mat cb).spec := conOK_tree (om_l91Mat hk hG) mixed Tryd.func76 (by kernel_rfl) (congrFun run_l91Mat cb.tail)

def sg_l92Table : Sig := { args := [.s (.p (.own 0) 0)], pre := [⟨[.e (.var 0), .e (.var 1)], 113⟩], tin := [.sl, .int .i64], gin := [], res := .c (.ag [.e (.var 0), .e (.var 1), .e (.var 2), .e (.var 3), .e (.var 4), .e (.var 5), .e (.var 6), .e (.var 7), .e (.var 8), .e (.var 9), .e (.var 10), .e (.var 11), .e (.var 12), .e (.var 13), .e (.var 14), .e (.var 15), .e (.var 16), .e (.var 17), .e (.var 18), .e (.var 19), .e (.var 20), .e (.var 21), .e (.var 22), .e (.var 23), .e (.var 24), .e (.var 25), .e (.var 26), .e (.var 27), .e (.var 28), .e (.var 29), .e (.var 30), .e (.var 31), .e (.var 32), .e (.var 33), .e (.var 34), .e (.var 35), .e (.var 36), .e (.var 37), .e (.var 38), .e (.var 39), .e (.var 40), .e (.var 41), .e (.var 42), .e (.var 43), .e (.var 44), .e (.var 45), .e (.var 46), .e (.var 47)]), post := [⟨[.e (.var 48), .e (.var 49)], 113⟩], tout := [.int .i64, .int .i64, .int .i64, .int .i64, .int .i64, .int .i64, .int .i64, .int .i64, .int .i64, .int .i64, .int .i64, .int .i64, .int .i64, .int .i64, .int .i64, .int .i64, .int .i64, .int .i64, .int .i64, .int .i64, .int .i64, .int .i64, .int .i64, .int .i64, .int .i64, .int .i64, .int .i64, .int .i64, .int .i64, .int .i64, .int .i64, .int .i64, .int .i64, .int .i64, .int .i64, .int .i64, .int .i64, .int .i64, .int .i64, .int .i64, .int .i64, .int .i64, .int .i64, .int .i64, .int .i64, .int .i64, .int .i64, .int .i64, .sl, .int .i64], gout := [] }
def cl_l92Table : List (Nat × Sig) := [(85, sg_pickC), (76, sg_l91Mat), (24, sg_sTableOf), (101, sg_l6tUnit), (43, sg_l91Real)]
theorem run_l92Table : (fun H : List (Nat × List Sc) => run ⟨Tryd.prog, glb ++ H, cl_l92Table⟩ [] Tryd.f74 sg_l92Table (Tryd.f74.body.getD .skip)) = fun _ => tr_l92Table := by kernel_rfl
theorem om_l92Table {cb : CodeB} (hk : CodeOk cb) (hG : Known cb (glb ++ cb.tail)) : ΩOK ⟨Tryd.prog, glb ++ cb.tail, cl_l92Table⟩ (specsOf (Fs_l92Table cb)) := (ΩOK_cons (con_pickC hk hG) Tryd.call85 (ΩOK_cons (con_l91Mat hk hG) Tryd.call76 (ΩOK_cons cong_sTableOf.more Tryd.call24 (ΩOK_cons con_l6tUnit.more Tryd.call101 (ΩOK_cons (con_l91Real hk hG) Tryd.call43 ΩOK_nil)))))
theorem con_l92Table {cb : CodeB} (hk : CodeOk cb) (hG : Known cb (glb ++ cb.tail)) : ConOK Tryd.prog (glb ++ cb.tail) 74 sg_l92Table (F_l92Table cb).spec := conOK_tree (om_l92Table hk hG) mixed Tryd.func74 (by kernel_rfl) (congrFun run_l92Table cb.tail)

def sg_wholeK1 : Sig := { args := [.s (.e (.int .i64 (1)))], pre := [], tin := [], gin := [], res := .c (.ag [.e (.int .i64 (1)), .e (.int .i64 (0)), .e (.int .i64 (1))]), post := [], tout := [], gout := [] }
def cl_wholeK1 : List (Nat × Sig) := []
theorem run_wholeK1 : run ⟨Tryd.prog, glb, cl_wholeK1⟩ [] Tryd.f54 sg_wholeK1 (Tryd.f54.body.getD .skip) = tr_wholeK1 := by kernel_rfl
theorem om_wholeK1 : ΩOK ⟨Tryd.prog, glb, cl_wholeK1⟩ (specsOf Fs_wholeK1) := ΩOK_nil
theorem con_wholeK1 : ConOK Tryd.prog glb 54 sg_wholeK1 F_wholeK1.spec := conOK_tree om_wholeK1 mixed Tryd.func54 (by kernel_rfl) run_wholeK1

def sg_iFracCompare : Sig := { args := [.ag [.e (.var 0), .e (.var 1), .e (.var 2)], .ag [.e (.var 3), .e (.var 4), .e (.var 5)]], pre := [], tin := [.int .i64, .int .i64, .int .i64, .int .i64, .int .i64, .int .i64], gin := [], res := .tu [.s (.e (.var 0)), .s (.e (.var 1))], post := [], tout := [.int .i64, .bool], gout := [] }
def cl_iFracCompare : List (Nat × Sig) := [(45, sg_realOk)]
theorem run_iFracCompare : run ⟨Tryd.prog, glb, cl_iFracCompare⟩ [] Tryd.f36 sg_iFracCompare (Tryd.f36.body.getD .skip) = tr_iFracCompare := by kernel_rfl
theorem om_iFracCompare : ΩOK ⟨Tryd.prog, glb, cl_iFracCompare⟩ (specsOf Fs_iFracCompare) := (ΩOK_cons cong_realOk Tryd.call45 ΩOK_nil)
theorem con_iFracCompare : ConOK Tryd.prog glb 36 sg_iFracCompare F_iFracCompare.spec := conOK_tree om_iFracCompare mixed Tryd.func36 (by kernel_rfl) run_iFracCompare
theorem cong_iFracCompare : ConOK Tryd.prog glb 36 sg_iFracCompare G_iFracCompare.spec := con_iFracCompare.as as_iFracCompare

def sg_l2Sign : Sig := { args := [.s (.e (.var 0))], pre := [], tin := [.int .i64], gin := [], res := .c (.s (.e (.var 0))), post := [], tout := [.int .i64], gout := [] }
def cl_l2Sign : List (Nat × Sig) := []
theorem run_l2Sign : run ⟨Tryd.prog, glb, cl_l2Sign⟩ [] Tryd.f82 sg_l2Sign (Tryd.f82.body.getD .skip) = tr_l2Sign := by kernel_rfl
theorem om_l2Sign : ΩOK ⟨Tryd.prog, glb, cl_l2Sign⟩ (specsOf Fs_l2Sign) := ΩOK_nil
theorem con_l2Sign : ConOK Tryd.prog glb 82 sg_l2Sign F_l2Sign.spec := conOK_tree om_l2Sign mixed Tryd.func82 (by kernel_rfl) run_l2Sign

def sg_sFracCompare : Sig := { args := [.ag [.e (.var 0), .e (.var 1), .e (.var 2)], .ag [.e (.var 3), .e (.var 4), .e (.var 5)]], pre := [], tin := [.int .i64, .int .i64, .int .i64, .int .i64, .int .i64, .int .i64], gin := [], res := .tu [.s (.e (.var 0)), .s (.e (.var 1))], post := [], tout := [.int .i64, .bool], gout := [] }
def cl_sFracCompare : List (Nat × Sig) := [(47, sg_sFracValid), (82, sg_l2Sign)]
theorem run_sFracCompare : run ⟨Tryd.prog, glb, cl_sFracCompare⟩ [] Tryd.f40 sg_sFracCompare (Tryd.f40.body.getD .skip) = tr_sFracCompare := by kernel_rfl
theorem om_sFracCompare : ΩOK ⟨Tryd.prog, glb, cl_sFracCompare⟩ (specsOf Fs_sFracCompare) := (ΩOK_cons cong_sFracValid Tryd.call47 (ΩOK_cons con_l2Sign Tryd.call82 ΩOK_nil))
theorem con_sFracCompare : ConOK Tryd.prog glb 40 sg_sFracCompare F_sFracCompare.spec := conOK_tree om_sFracCompare mixed Tryd.func40 (by kernel_rfl) run_sFracCompare
theorem cong_sFracCompare : ConOK Tryd.prog glb 40 sg_sFracCompare G_sFracCompare.spec := con_sFracCompare.as as_sFracCompare

def sg_six : Sig := { args := [.ag [.e (.var 0), .e (.var 1), .e (.var 2), .e (.var 3), .e (.var 4), .e (.var 5), .e (.var 6), .e (.var 7), .e (.var 8), .e (.var 9), .e (.var 10), .e (.var 11), .e (.var 12), .e (.var 13), .e (.var 14), .e (.var 15), .e (.var 16), .e (.var 17), .e (.var 18), .e (.var 19), .e (.var 20), .e (.var 21), .e (.var 22), .e (.var 23), .e (.var 24), .e (.var 25), .e (.var 26), .e (.var 27), .e (.var 28), .e (.var 29), .e (.var 30), .e (.var 31), .e (.var 32), .e (.var 33), .e (.var 34), .e (.var 35), .e (.var 36), .e (.var 37), .e (.var 38), .e (.var 39), .e (.var 40), .e (.var 41), .e (.var 42), .e (.var 43), .e (.var 44), .e (.var 45), .e (.var 46), .e (.var 47)]], pre := [], tin := [.int .i64, .int .i64, .int .i64, .int .i64, .int .i64, .int .i64, .int .i64, .int .i64, .int .i64, .int .i64, .int .i64, .int .i64, .int .i64, .int .i64, .int .i64, .int .i64, .int .i64, .int .i64, .int .i64, .int .i64, .int .i64, .int .i64, .int .i64, .int .i64, .int .i64, .int .i64, .int .i64, .int .i64, .int .i64, .int .i64, .int .i64, .int .i64, .int .i64, .int .i64, .int .i64, .int .i64, .int .i64, .int .i64, .int .i64, .int .i64, .int .i64, .int .i64, .int .i64, .int .i64, .int .i64, .int .i64, .int .i64, .int .i64], gin := [], res := .tu [.s (.e (.var 0)), .s (.e (.var 1))], post := [], tout := [.sl, .bool, .row .i64 3], gout := [(0, 2, 3)] }
def cl_six : List (Nat × Sig) := [(54, sg_wholeK1), (54, sg_wholeM), (18, sg_iTableApply)]
theorem run_six : run ⟨Tryd.prog, glb, cl_six⟩ [] Tryd.f42 sg_six (Tryd.f42.body.getD .skip) = tr_six := by kernel_rfl
theorem om_six : ΩOK ⟨Tryd.prog, glb, cl_six⟩ (specsOf Fs_six) := (ΩOK_cons con_wholeK1 Tryd.call54 (ΩOK_cons con_wholeM Tryd.call54 (ΩOK_cons cong_iTableApply Tryd.call18 ΩOK_nil)))
theorem con_six : ConOK Tryd.prog glb 42 sg_six SP_six := conOK_of om_six mixed Tryd.func42 (by kernel_rfl) run_six (fun ins K ht h => sat_six Tryd.prog ins K ht h)

def sg_iTableKeeps : Sig := { args := [.ag [.e (.var 0), .e (.var 1), .e (.var 2), .e (.var 3), .e (.var 4), .e (.var 5), .e (.var 6), .e (.var 7), .e (.var 8), .e (.var 9), .e (.var 10), .e (.var 11), .e (.var 12), .e (.var 13), .e (.var 14), .e (.var 15), .e (.var 16), .e (.var 17), .e (.var 18), .e (.var 19), .e (.var 20), .e (.var 21), .e (.var 22), .e (.var 23), .e (.var 24), .e (.var 25), .e (.var 26), .e (.var 27), .e (.var 28), .e (.var 29), .e (.var 30), .e (.var 31), .e (.var 32), .e (.var 33), .e (.var 34), .e (.var 35), .e (.var 36), .e (.var 37), .e (.var 38), .e (.var 39), .e (.var 40), .e (.var 41), .e (.var 42), .e (.var 43), .e (.var 44), .e (.var 45), .e (.var 46), .e (.var 47)]], pre := [], tin := [.int .i64, .int .i64, .int .i64, .int .i64, .int .i64, .int .i64, .int .i64, .int .i64, .int .i64, .int .i64, .int .i64, .int .i64, .int .i64, .int .i64, .int .i64, .int .i64, .int .i64, .int .i64, .int .i64, .int .i64, .int .i64, .int .i64, .int .i64, .int .i64, .int .i64, .int .i64, .int .i64, .int .i64, .int .i64, .int .i64, .int .i64, .int .i64, .int .i64, .int .i64, .int .i64, .int .i64, .int .i64, .int .i64, .int .i64, .int .i64, .int .i64, .int .i64, .int .i64, .int .i64, .int .i64, .int .i64, .int .i64, .int .i64], gin := [], res := .c (.s (.e (.var 0))), post := [], tout := [.bool], gout := [] }
def cl_iTableKeeps : List (Nat × Sig) := [(42, sg_six), (36, sg_iFracCompare)]
theorem run_iTableKeeps : run ⟨Tryd.prog, glb, cl_iTableKeeps⟩ [(0, ⟨[(18, .int .i64), (4, .bool)], [], none⟩)] Tryd.f13 sg_iTableKeeps (Tryd.f13.body.getD .skip) = tr_iTableKeeps := by kernel_rfl
theorem om_iTableKeeps : ΩOK ⟨Tryd.prog, glb, cl_iTableKeeps⟩ Ss_iTableKeeps := (ΩOK_consS con_six Tryd.call42 (ΩOK_consS cong_iFracCompare Tryd.call36 ΩOK_nilS))
theorem con_iTableKeeps : ConOK Tryd.prog glb 13 sg_iTableKeeps F_iTableKeeps.spec := conOK_of om_iTableKeeps mixed Tryd.func13 (by kernel_rfl) run_iTableKeeps (fun ins K ht h => sat_iTableKeeps Tryd.prog ins K ht h.1 h.2)

def sg_greatest : Sig := { args := [.s (.e (.var 0))], pre := [], tin := [.sl, .row .i64 3], gin := [(0, 1, 3)], res := .c (.s (.e (.var 0))), post := [], tout := [.int .i64], gout := [] }
def cl_greatest : List (Nat × Sig) := [(36, sg_iFracCompare)]
theorem run_greatest : run ⟨Tryd.prog, glb, cl_greatest⟩ [(0, ⟨[(9, .int .i64), (3, .int .i64)], [], none⟩)] Tryd.f63 sg_greatest (Tryd.f63.body.getD .skip) = tr_greatest := by kernel_rfl
theorem om_greatest : ΩOK ⟨Tryd.prog, glb, cl_greatest⟩ (specsOf Fs_greatest) := (ΩOK_cons cong_iFracCompare Tryd.call36 ΩOK_nil)
theorem con_greatest : ConOK Tryd.prog glb 63 sg_greatest F_greatest.spec := conOK_of om_greatest mixed Tryd.func63 (by kernel_rfl) run_greatest (fun ins K ht h => sat_greatest Tryd.prog ins K ht h.1 h.2)

def sg_iTableEnergy : Sig := { args := [.ag [.e (.var 0), .e (.var 1), .e (.var 2), .e (.var 3), .e (.var 4), .e (.var 5), .e (.var 6), .e (.var 7), .e (.var 8), .e (.var 9), .e (.var 10), .e (.var 11), .e (.var 12), .e (.var 13), .e (.var 14), .e (.var 15), .e (.var 16), .e (.var 17), .e (.var 18), .e (.var 19), .e (.var 20), .e (.var 21), .e (.var 22), .e (.var 23), .e (.var 24), .e (.var 25), .e (.var 26), .e (.var 27), .e (.var 28), .e (.var 29), .e (.var 30), .e (.var 31), .e (.var 32), .e (.var 33), .e (.var 34), .e (.var 35), .e (.var 36), .e (.var 37), .e (.var 38), .e (.var 39), .e (.var 40), .e (.var 41), .e (.var 42), .e (.var 43), .e (.var 44), .e (.var 45), .e (.var 46), .e (.var 47)]], pre := [], tin := [.int .i64, .int .i64, .int .i64, .int .i64, .int .i64, .int .i64, .int .i64, .int .i64, .int .i64, .int .i64, .int .i64, .int .i64, .int .i64, .int .i64, .int .i64, .int .i64, .int .i64, .int .i64, .int .i64, .int .i64, .int .i64, .int .i64, .int .i64, .int .i64, .int .i64, .int .i64, .int .i64, .int .i64, .int .i64, .int .i64, .int .i64, .int .i64, .int .i64, .int .i64, .int .i64, .int .i64, .int .i64, .int .i64, .int .i64, .int .i64, .int .i64, .int .i64, .int .i64, .int .i64, .int .i64, .int .i64, .int .i64, .int .i64], gin := [], res := .tu [.ag [.e (.var 0), .e (.var 1), .e (.var 2)], .s (.e (.var 3))], post := [], tout := [.int .i64, .int .i64, .int .i64, .bool], gout := [] }
def cl_iTableEnergy : List (Nat × Sig) := [(42, sg_six), (63, sg_greatest)]
theorem run_iTableEnergy : run ⟨Tryd.prog, glb, cl_iTableEnergy⟩ [] Tryd.f22 sg_iTableEnergy (Tryd.f22.body.getD .skip) = tr_iTableEnergy := by kernel_rfl
theorem om_iTableEnergy : ΩOK ⟨Tryd.prog, glb, cl_iTableEnergy⟩ Ss_iTableEnergy := (ΩOK_consS con_six Tryd.call42 (ΩOK_consS con_greatest Tryd.call63 ΩOK_nilS))
theorem con_iTableEnergy : ConOK Tryd.prog glb 22 sg_iTableEnergy F_iTableEnergy.spec := conOK_of om_iTableEnergy mixed Tryd.func22 (by kernel_rfl) run_iTableEnergy (fun ins K ht h => sat_iTableEnergy Tryd.prog ins K ht h.1 h.2)

def sg_l6tKind0 : Sig := { args := [.s (.e (.int .i64 (0)))], pre := [], tin := [], gin := [], res := .c (.ag [.e (.var 0), .e (.var 1), .e (.var 2), .e (.var 3), .e (.var 4), .e (.var 5), .e (.var 6), .e (.var 7), .e (.var 8), .e (.var 9), .e (.var 10), .e (.var 11)]), post := [], tout := [.int .i64, .int .i64, .int .i64, .int .i64, .int .i64, .int .i64, .int .i64, .int .i64, .int .i64, .int .i64, .int .i64, .int .i64], gout := [] }
def cl_l6tKind0 : List (Nat × Sig) := []
theorem run_l6tKind0 : run ⟨Tryd.prog, glb, cl_l6tKind0⟩ [] Tryd.f81 sg_l6tKind0 (Tryd.f81.body.getD .skip) = tr_l6tKind0 := by kernel_rfl
theorem om_l6tKind0 : ΩOK ⟨Tryd.prog, glb, cl_l6tKind0⟩ (specsOf Fs_l6tKind0) := ΩOK_nil
theorem con_l6tKind0 : ConOK Tryd.prog glb 81 sg_l6tKind0 F_l6tKind0.spec := conOK_tree om_l6tKind0 mixed Tryd.func81 (by kernel_rfl) run_l6tKind0

def sg_l6tKind1 : Sig := { args := [.s (.e (.int .i64 (1)))], pre := [], tin := [], gin := [], res := .c (.ag [.e (.var 0), .e (.var 1), .e (.var 2), .e (.var 3), .e (.var 4), .e (.var 5), .e (.var 6), .e (.var 7), .e (.var 8), .e (.var 9), .e (.var 10), .e (.var 11)]), post := [], tout := [.int .i64, .int .i64, .int .i64, .int .i64, .int .i64, .int .i64, .int .i64, .int .i64, .int .i64, .int .i64, .int .i64, .int .i64], gout := [] }
def cl_l6tKind1 : List (Nat × Sig) := []
theorem run_l6tKind1 : run ⟨Tryd.prog, glb, cl_l6tKind1⟩ [] Tryd.f81 sg_l6tKind1 (Tryd.f81.body.getD .skip) = tr_l6tKind1 := by kernel_rfl
theorem om_l6tKind1 : ΩOK ⟨Tryd.prog, glb, cl_l6tKind1⟩ (specsOf Fs_l6tKind1) := ΩOK_nil
theorem con_l6tKind1 : ConOK Tryd.prog glb 81 sg_l6tKind1 F_l6tKind1.spec := conOK_tree om_l6tKind1 mixed Tryd.func81 (by kernel_rfl) run_l6tKind1

def sg_l6tKind2 : Sig := { args := [.s (.e (.int .i64 (2)))], pre := [], tin := [], gin := [], res := .c (.ag [.e (.var 0), .e (.var 1), .e (.var 2), .e (.var 3), .e (.var 4), .e (.var 5), .e (.var 6), .e (.var 7), .e (.var 8), .e (.var 9), .e (.var 10), .e (.var 11)]), post := [], tout := [.int .i64, .int .i64, .int .i64, .int .i64, .int .i64, .int .i64, .int .i64, .int .i64, .int .i64, .int .i64, .int .i64, .int .i64], gout := [] }
def cl_l6tKind2 : List (Nat × Sig) := []
theorem run_l6tKind2 : run ⟨Tryd.prog, glb, cl_l6tKind2⟩ [] Tryd.f81 sg_l6tKind2 (Tryd.f81.body.getD .skip) = tr_l6tKind2 := by kernel_rfl
theorem om_l6tKind2 : ΩOK ⟨Tryd.prog, glb, cl_l6tKind2⟩ (specsOf Fs_l6tKind2) := ΩOK_nil
theorem con_l6tKind2 : ConOK Tryd.prog glb 81 sg_l6tKind2 F_l6tKind2.spec := conOK_tree om_l6tKind2 mixed Tryd.func81 (by kernel_rfl) run_l6tKind2

def sg_l6tKind3 : Sig := { args := [.s (.e (.int .i64 (3)))], pre := [], tin := [], gin := [], res := .c (.ag [.e (.var 0), .e (.var 1), .e (.var 2), .e (.var 3), .e (.var 4), .e (.var 5), .e (.var 6), .e (.var 7), .e (.var 8), .e (.var 9), .e (.var 10), .e (.var 11)]), post := [], tout := [.int .i64, .int .i64, .int .i64, .int .i64, .int .i64, .int .i64, .int .i64, .int .i64, .int .i64, .int .i64, .int .i64, .int .i64], gout := [] }
def cl_l6tKind3 : List (Nat × Sig) := []
theorem run_l6tKind3 : run ⟨Tryd.prog, glb, cl_l6tKind3⟩ [] Tryd.f81 sg_l6tKind3 (Tryd.f81.body.getD .skip) = tr_l6tKind3 := by kernel_rfl
theorem om_l6tKind3 : ΩOK ⟨Tryd.prog, glb, cl_l6tKind3⟩ (specsOf Fs_l6tKind3) := ΩOK_nil
theorem con_l6tKind3 : ConOK Tryd.prog glb 81 sg_l6tKind3 F_l6tKind3.spec := conOK_tree om_l6tKind3 mixed Tryd.func81 (by kernel_rfl) run_l6tKind3

def sg_l6tKind4 : Sig := { args := [.s (.e (.int .i64 (4)))], pre := [], tin := [], gin := [], res := .c (.ag [.e (.var 0), .e (.var 1), .e (.var 2), .e (.var 3), .e (.var 4), .e (.var 5), .e (.var 6), .e (.var 7), .e (.var 8), .e (.var 9), .e (.var 10), .e (.var 11)]), post := [], tout := [.int .i64, .int .i64, .int .i64, .int .i64, .int .i64, .int .i64, .int .i64, .int .i64, .int .i64, .int .i64, .int .i64, .int .i64], gout := [] }
def cl_l6tKind4 : List (Nat × Sig) := []
theorem run_l6tKind4 : run ⟨Tryd.prog, glb, cl_l6tKind4⟩ [] Tryd.f81 sg_l6tKind4 (Tryd.f81.body.getD .skip) = tr_l6tKind4 := by kernel_rfl
theorem om_l6tKind4 : ΩOK ⟨Tryd.prog, glb, cl_l6tKind4⟩ (specsOf Fs_l6tKind4) := ΩOK_nil
theorem con_l6tKind4 : ConOK Tryd.prog glb 81 sg_l6tKind4 F_l6tKind4.spec := conOK_tree om_l6tKind4 mixed Tryd.func81 (by kernel_rfl) run_l6tKind4

def sg_l6tKind5 : Sig := { args := [.s (.e (.int .i64 (5)))], pre := [], tin := [], gin := [], res := .c (.ag [.e (.var 0), .e (.var 1), .e (.var 2), .e (.var 3), .e (.var 4), .e (.var 5), .e (.var 6), .e (.var 7), .e (.var 8), .e (.var 9), .e (.var 10), .e (.var 11)]), post := [], tout := [.int .i64, .int .i64, .int .i64, .int .i64, .int .i64, .int .i64, .int .i64, .int .i64, .int .i64, .int .i64, .int .i64, .int .i64], gout := [] }
def cl_l6tKind5 : List (Nat × Sig) := []
theorem run_l6tKind5 : run ⟨Tryd.prog, glb, cl_l6tKind5⟩ [] Tryd.f81 sg_l6tKind5 (Tryd.f81.body.getD .skip) = tr_l6tKind5 := by kernel_rfl
theorem om_l6tKind5 : ΩOK ⟨Tryd.prog, glb, cl_l6tKind5⟩ (specsOf Fs_l6tKind5) := ΩOK_nil
theorem con_l6tKind5 : ConOK Tryd.prog glb 81 sg_l6tKind5 F_l6tKind5.spec := conOK_tree om_l6tKind5 mixed Tryd.func81 (by kernel_rfl) run_l6tKind5

def sg_l6tKind : Sig := { args := [.s (.e (.var 0))], pre := [], tin := [.int .i64], gin := [], res := .c (.ag [.e (.var 0), .e (.var 1), .e (.var 2), .e (.var 3), .e (.var 4), .e (.var 5), .e (.var 6), .e (.var 7), .e (.var 8), .e (.var 9), .e (.var 10), .e (.var 11)]), post := [], tout := [.int .i64, .int .i64, .int .i64, .int .i64, .int .i64, .int .i64, .int .i64, .int .i64, .int .i64, .int .i64, .int .i64, .int .i64], gout := [] }
theorem con_l6tKind : ConOK Tryd.prog glb 81 sg_l6tKind SP_l6tKind := by
  refine conOK_kinds (F := fun k => match k with | 0 => F_l6tKind0 | 1 => F_l6tKind1 | 2 => F_l6tKind2 | 3 => F_l6tKind3 | 4 => F_l6tKind4 | _ => F_l6tKind5) (six_lt con_l6tKind0 con_l6tKind1 con_l6tKind2 con_l6tKind3 con_l6tKind4 con_l6tKind5) (six_lt ⟨?_, ?_⟩ ⟨?_, ?_⟩ ⟨?_, ?_⟩ ⟨?_, ?_⟩ ⟨?_, ?_⟩ ⟨?_, ?_⟩)
  all_goals first | kernel_rfl | exact okT_free (fun F hF => by cases hF) _ _ (by kernel_rfl)


def sg_l6tFirst : Sig := { args := [.ag [.e (.var 0), .e (.var 1), .e (.var 2), .e (.var 3), .e (.var 4), .e (.var 5), .e (.var 6), .e (.var 7), .e (.var 8), .e (.var 9), .e (.var 10), .e (.var 11), .e (.var 12), .e (.var 13), .e (.var 14), .e (.var 15), .e (.var 16), .e (.var 17), .e (.var 18), .e (.var 19), .e (.var 20), .e (.var 21), .e (.var 22), .e (.var 23), .e (.var 24), .e (.var 25), .e (.var 26), .e (.var 27), .e (.var 28), .e (.var 29), .e (.var 30), .e (.var 31), .e (.var 32), .e (.var 33), .e (.var 34), .e (.var 35), .e (.var 36), .e (.var 37), .e (.var 38), .e (.var 39), .e (.var 40), .e (.var 41), .e (.var 42), .e (.var 43), .e (.var 44), .e (.var 45), .e (.var 46), .e (.var 47)]], pre := [], tin := [.int .i64, .int .i64, .int .i64, .int .i64, .int .i64, .int .i64, .int .i64, .int .i64, .int .i64, .int .i64, .int .i64, .int .i64, .int .i64, .int .i64, .int .i64, .int .i64, .int .i64, .int .i64, .int .i64, .int .i64, .int .i64, .int .i64, .int .i64, .int .i64, .int .i64, .int .i64, .int .i64, .int .i64, .int .i64, .int .i64, .int .i64, .int .i64, .int .i64, .int .i64, .int .i64, .int .i64, .int .i64, .int .i64, .int .i64, .int .i64, .int .i64, .int .i64, .int .i64, .int .i64, .int .i64, .int .i64, .int .i64, .int .i64], gin := [], res := .tu [.ag [.e (.var 0), .e (.var 1), .e (.var 2)], .ag [.e (.var 3), .e (.var 4), .e (.var 5)], .s (.e (.var 6))], post := [], tout := [.int .i64, .int .i64, .int .i64, .int .i64, .int .i64, .int .i64, .bool], gout := [] }
def cl_l6tFirst : List (Nat × Sig) := [(81, sg_l6tKind), (80, sg_sTableApply), (40, sg_sFracCompare)]
theorem run_l6tFirst : run ⟨Tryd.prog, glb, cl_l6tFirst⟩ [(0, ⟨[(7, .int .i64)], [(3, 0, .int .i64), (3, 1, .int .i64), (3, 2, .int .i64), (4, 0, .int .i64), (4, 1, .int .i64), (4, 2, .int .i64)], none⟩)] Tryd.f39 sg_l6tFirst (Tryd.f39.body.getD .skip) = tr_l6tFirst := by kernel_rfl
theorem om_l6tFirst : ΩOK ⟨Tryd.prog, glb, cl_l6tFirst⟩ Ss_l6tFirst := (ΩOK_consS con_l6tKind Tryd.call81 (ΩOK_consS cong_sTableApply Tryd.call80 (ΩOK_consS cong_sFracCompare Tryd.call40 ΩOK_nilS)))
theorem con_l6tFirst : ConOK Tryd.prog glb 39 sg_l6tFirst SP_l6tFirst := conOK_of om_l6tFirst mixed Tryd.func39 (by kernel_rfl) run_l6tFirst (fun ins K ht h => sat_l6tFirst Tryd.prog ins K ht h)

def sg_sTableKeeps : Sig := { args := [.ag [.e (.var 0), .e (.var 1), .e (.var 2), .e (.var 3), .e (.var 4), .e (.var 5), .e (.var 6), .e (.var 7), .e (.var 8), .e (.var 9), .e (.var 10), .e (.var 11), .e (.var 12), .e (.var 13), .e (.var 14), .e (.var 15), .e (.var 16), .e (.var 17), .e (.var 18), .e (.var 19), .e (.var 20), .e (.var 21), .e (.var 22), .e (.var 23), .e (.var 24), .e (.var 25), .e (.var 26), .e (.var 27), .e (.var 28), .e (.var 29), .e (.var 30), .e (.var 31), .e (.var 32), .e (.var 33), .e (.var 34), .e (.var 35), .e (.var 36), .e (.var 37), .e (.var 38), .e (.var 39), .e (.var 40), .e (.var 41), .e (.var 42), .e (.var 43), .e (.var 44), .e (.var 45), .e (.var 46), .e (.var 47)]], pre := [], tin := [.int .i64, .int .i64, .int .i64, .int .i64, .int .i64, .int .i64, .int .i64, .int .i64, .int .i64, .int .i64, .int .i64, .int .i64, .int .i64, .int .i64, .int .i64, .int .i64, .int .i64, .int .i64, .int .i64, .int .i64, .int .i64, .int .i64, .int .i64, .int .i64, .int .i64, .int .i64, .int .i64, .int .i64, .int .i64, .int .i64, .int .i64, .int .i64, .int .i64, .int .i64, .int .i64, .int .i64, .int .i64, .int .i64, .int .i64, .int .i64, .int .i64, .int .i64, .int .i64, .int .i64, .int .i64, .int .i64, .int .i64, .int .i64], gin := [], res := .c (.s (.e (.var 0))), post := [], tout := [.bool], gout := [] }
def cl_sTableKeeps : List (Nat × Sig) := [(39, sg_l6tFirst), (40, sg_sFracCompare)]
theorem run_sTableKeeps : run ⟨Tryd.prog, glb, cl_sTableKeeps⟩ [] Tryd.f11 sg_sTableKeeps (Tryd.f11.body.getD .skip) = tr_sTableKeeps := by kernel_rfl
theorem om_sTableKeeps : ΩOK ⟨Tryd.prog, glb, cl_sTableKeeps⟩ Ss_sTableKeeps := (ΩOK_consS con_l6tFirst Tryd.call39 (ΩOK_consS cong_sFracCompare Tryd.call40 ΩOK_nilS))
theorem con_sTableKeeps : ConOK Tryd.prog glb 11 sg_sTableKeeps F_sTableKeeps.spec := conOK_of om_sTableKeeps mixed Tryd.func11 (by kernel_rfl) run_sTableKeeps (fun ins K ht h => sat_sTableKeeps Tryd.prog ins K ht h.1 h.2)

def sg_DrawTableKeeps : Sig := { args := [.s (.e (.var 0))], pre := [], tin := [.sl], gin := [], res := .c (.ag [.e (.var 0), .e (.var 1), .e (.var 2), .e (.var 3), .e (.var 4), .e (.var 5), .e (.var 6), .e (.var 7), .e (.var 8), .e (.var 9), .e (.var 10), .e (.var 11), .e (.var 12), .e (.var 13), .e (.var 14), .e (.var 15), .e (.var 16), .e (.var 17), .e (.var 18), .e (.var 19), .e (.var 20), .e (.var 21), .e (.var 22), .e (.var 23), .e (.var 24), .e (.var 25), .e (.var 26), .e (.var 27), .e (.var 28), .e (.var 29), .e (.var 30), .e (.var 31), .e (.var 32), .e (.var 33), .e (.var 34), .e (.var 35), .e (.var 36), .e (.var 37), .e (.var 38), .e (.var 39), .e (.var 40), .e (.var 41), .e (.var 42), .e (.var 43), .e (.var 44), .e (.var 45), .e (.var 46), .e (.var 47)]), post := [], tout := [.int .i64, .int .i64, .int .i64, .int .i64, .int .i64, .int .i64, .int .i64, .int .i64, .int .i64, .int .i64, .int .i64, .int .i64, .int .i64, .int .i64, .int .i64, .int .i64, .int .i64, .int .i64, .int .i64, .int .i64, .int .i64, .int .i64, .int .i64, .int .i64, .int .i64, .int .i64, .int .i64, .int .i64, .int .i64, .int .i64, .int .i64, .int .i64, .int .i64, .int .i64, .int .i64, .int .i64, .int .i64, .int .i64, .int .i64, .int .i64, .int .i64, .int .i64, .int .i64, .int .i64, .int .i64, .int .i64, .int .i64, .int .i64], gout := [] }
def cl_DrawTableKeeps : List (Nat × Sig) := [(44, sg_openC), (74, sg_l92Table)]
theorem run_DrawTableKeeps : (fun H : List (Nat × List Sc) => run ⟨Tryd.prog, glb ++ H, cl_DrawTableKeeps⟩ [] Tryd.f37 sg_DrawTableKeeps (Tryd.f37.body.getD .skip)) = fun _ => tr_DrawTableKeeps := by kernel_rfl
theorem om_DrawTableKeeps {cb : CodeB} (hk : CodeOk cb) (hG : Known cb (glb ++ cb.tail)) : ΩOK ⟨Tryd.prog, glb ++ cb.tail, cl_DrawTableKeeps⟩ (specsOf (Fs_DrawTableKeeps cb)) := (ΩOK_cons (con_openC hk hG) Tryd.call44 (ΩOK_cons (con_l92Table hk hG) Tryd.call74 ΩOK_nil))
theorem con_DrawTableKeeps {cb : CodeB} (hk : CodeOk cb) (hG : Known cb (glb ++ cb.tail)) : ConOK Tryd.prog (glb ++ cb.tail) 37 sg_DrawTableKeeps (F_DrawTableKeeps cb).spec := conOK_tree (om_DrawTableKeeps hk hG) mixed Tryd.func37 (by kernel_rfl) (congrFun run_DrawTableKeeps cb.tail)

def sg_FnKeeps : Sig := { args := [.s (.e (.var 0))], pre := [], tin := [.sl], gin := [], res := .c (.s (.e (.var 0))), post := [], tout := [.bool], gout := [] }
def cl_FnKeeps : List (Nat × Sig) := [(37, sg_DrawTableKeeps), (13, sg_iTableKeeps), (11, sg_sTableKeeps), (22, sg_iTableEnergy), (38, sg_iTableMix)]
theorem run_FnKeeps : (fun H : List (Nat × List Sc) => run ⟨Tryd.prog, glb ++ H, cl_FnKeeps⟩ [] Tryd.f10 sg_FnKeeps (Tryd.f10.body.getD .skip)) = fun _ => tr_FnKeeps := by kernel_rfl
theorem draw_DrawTableKeeps {cb : CodeB} (hk : CodeOk cb) (hG : Known cb (glb ++ cb.tail)) : ConOK Tryd.prog (glb ++ cb.tail) 37 sg_DrawTableKeeps (drawSpec dt_FnKeeps (drawPre cb)) := (con_DrawTableKeeps hk hG).draw (draw_pre (aok_DrawTableKeeps hk) (by kernel_rfl))
theorem om_FnKeeps {cb : CodeB} (hk : CodeOk cb) (hG : Known cb (glb ++ cb.tail)) : ΩOK ⟨Tryd.prog, glb ++ cb.tail, cl_FnKeeps⟩ (Ss_FnKeeps cb) := ΩOK_specs (draw_DrawTableKeeps hk hG) Tryd.call37 (ΩOK_cons con_iTableKeeps.more Tryd.call13 (ΩOK_cons con_sTableKeeps.more Tryd.call11 (ΩOK_cons con_iTableEnergy.more Tryd.call22 (ΩOK_cons cong_iTableMix.more Tryd.call38 ΩOK_nil))))
theorem con_FnKeeps {cb : CodeB} (hk : CodeOk cb) (hG : Known cb (glb ++ cb.tail)) : ConOK Tryd.prog (glb ++ cb.tail) 10 sg_FnKeeps (lawF cb).spec := conOK_of (om_FnKeeps hk hG) mixed Tryd.func10 (by kernel_rfl) (congrFun run_FnKeeps cb.tail) (fun ins K ht h => sat_FnKeeps Tryd.prog cb ins K ht h.1 h.2)

end Go.Proofs.YtnlgkipjpbdodaaDoor

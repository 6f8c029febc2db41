/- The contracts of the functions. -/
import Derived.Test.YtnlgkipjpbdodaaDoorChecked
import Derived.Test.YtnlgkipjpbdodaaDoorRkAFnTableOf
import Derived.WalkKit
import Derived.Laws.OwnMore
import Derived.Deep.MidRow
namespace Go.Proofs.YtnlgkipjpbdodaaDoor
open Go Go.Sx Go.RowKit
set_option maxRecDepth 100000

def glb : List (Nat × List Sc) := [(0, [.e (.int .i64 (0)), .e (.int .i64 (0)), .e (.int .i64 (1))])]
theorem mixed : Tryd.prog.follows .mixedOrders = true := by kernel_rfl

def sg_size : Sig := { args := [.s (.e (.var 0))], pre := [], tin := [.int .i64], gin := [], res := .c (.s (.e (.var 0))), post := [], tout := [.int .i64], gout := [] }
def cl_size : List (Nat × Sig) := []
theorem run_size : run ⟨Tryd.prog, glb, cl_size⟩ [] Tryd.f107 sg_size (Tryd.f107.body.getD .skip) = tr_size := by kernel_rfl
theorem om_size : ΩOK ⟨Tryd.prog, glb, cl_size⟩ (specsOf Fs_size) := ΩOK_nil
theorem con_size : ConOK Tryd.prog glb 107 sg_size F_size.spec := conOK_tree om_size mixed Tryd.func107 (by kernel_rfl) run_size

def sg_within : Sig := { args := [.s (.e (.var 0)), .s (.e (.var 1)), .s (.e (.var 2))], pre := [], tin := [.int .i64, .int .i64, .int .i64], gin := [], res := .c (.s (.e (.var 0))), post := [], tout := [.bool], gout := [] }
def cl_within : List (Nat × Sig) := []
theorem run_within : run ⟨Tryd.prog, glb, cl_within⟩ [] Tryd.f75 sg_within (Tryd.f75.body.getD .skip) = tr_within := by kernel_rfl
theorem om_within : ΩOK ⟨Tryd.prog, glb, cl_within⟩ (specsOf Fs_within) := ΩOK_nil
theorem con_within : ConOK Tryd.prog glb 75 sg_within F_within.spec := conOK_tree om_within mixed Tryd.func75 (by kernel_rfl) run_within
theorem cong_within : ConOK Tryd.prog glb 75 sg_within G_within.spec := con_within.as as_within

def sg_l6In : Sig := { args := [.s (.e (.var 0)), .s (.e (.var 1)), .s (.e (.var 2))], pre := [], tin := [.int .i64, .int .i64, .int .i64], gin := [], res := .c (.s (.e (.var 0))), post := [], tout := [.bool], gout := [] }
def cl_l6In : List (Nat × Sig) := []
theorem run_l6In : run ⟨Tryd.prog, glb, cl_l6In⟩ [] Tryd.f89 sg_l6In (Tryd.f89.body.getD .skip) = tr_l6In := by kernel_rfl
theorem om_l6In : ΩOK ⟨Tryd.prog, glb, cl_l6In⟩ (specsOf Fs_l6In) := ΩOK_nil
theorem con_l6In : ConOK Tryd.prog glb 89 sg_l6In F_l6In.spec := conOK_tree om_l6In mixed Tryd.func89 (by kernel_rfl) run_l6In
theorem cong_l6In : ConOK Tryd.prog glb 89 sg_l6In G_l6In.spec := con_l6In.as as_l6In

def sg_l2In : Sig := { args := [.s (.e (.var 0))], pre := [], tin := [.int .i64], gin := [], res := .c (.s (.e (.var 0))), post := [], tout := [.bool], gout := [] }
def cl_l2In : List (Nat × Sig) := [(89, sg_l6In)]
theorem run_l2In : run ⟨Tryd.prog, glb, cl_l2In⟩ [] Tryd.f88 sg_l2In (Tryd.f88.body.getD .skip) = tr_l2In := by kernel_rfl
theorem om_l2In : ΩOK ⟨Tryd.prog, glb, cl_l2In⟩ (specsOf Fs_l2In) := (ΩOK_cons cong_l6In Tryd.call89 ΩOK_nil)
theorem con_l2In : ConOK Tryd.prog glb 88 sg_l2In F_l2In.spec := conOK_tree om_l2In mixed Tryd.func88 (by kernel_rfl) run_l2In
theorem cong_l2In : ConOK Tryd.prog glb 88 sg_l2In G_l2In.spec := con_l2In.as as_l2In

def sg_divisor : Sig := { args := [.s (.e (.var 0)), .s (.e (.var 1))], pre := [], tin := [.int .i64, .int .i64], gin := [], res := .c (.s (.e (.var 0))), post := [], tout := [.int .i64], gout := [] }
def cl_divisor : List (Nat × Sig) := []
theorem run_divisor : run ⟨Tryd.prog, glb, cl_divisor⟩ [(0, ⟨[(0, .int .i64), (1, .int .i64)], [], none⟩)] Tryd.f106 sg_divisor (Tryd.f106.body.getD .skip) = tr_divisor := by kernel_rfl
theorem om_divisor : ΩOK ⟨Tryd.prog, glb, cl_divisor⟩ (specsOf Fs_divisor) := ΩOK_nil
theorem con_divisor : ConOK Tryd.prog glb 106 sg_divisor F_divisor.spec := conOK_of om_divisor mixed Tryd.func106 (by kernel_rfl) run_divisor (fun ins K ht h => sat_divisor Tryd.prog ins K ht h.1 h.2)

def sg_l2Gcd : Sig := { args := [.s (.e (.var 0)), .s (.e (.var 1))], pre := [], tin := [.int .i64, .int .i64], gin := [], res := .c (.s (.e (.var 0))), post := [], tout := [.int .i64], gout := [] }
def cl_l2Gcd : List (Nat × Sig) := []
theorem run_l2Gcd : run ⟨Tryd.prog, glb, cl_l2Gcd⟩ [(0, ⟨[(0, .int .i64), (1, .int .i64)], [], none⟩)] Tryd.f90 sg_l2Gcd (Tryd.f90.body.getD .skip) = tr_l2Gcd := by kernel_rfl
theorem om_l2Gcd : ΩOK ⟨Tryd.prog, glb, cl_l2Gcd⟩ (specsOf Fs_l2Gcd) := ΩOK_nil
theorem con_l2Gcd : ConOK Tryd.prog glb 90 sg_l2Gcd F_l2Gcd.spec := conOK_of om_l2Gcd mixed Tryd.func90 (by kernel_rfl) run_l2Gcd (fun ins K ht h => sat_l2Gcd Tryd.prog ins K ht h.1 h.2)

def sg_lowest : Sig := { args := [.s (.e (.var 0)), .s (.e (.var 1)), .s (.e (.var 2))], pre := [], tin := [.int .i64, .int .i64, .int .i64], gin := [], res := .tu [.ag [.e (.var 0), .e (.var 1), .e (.var 2)], .s (.e (.var 3))], post := [], tout := [.int .i64, .int .i64, .int .i64, .bool], gout := [] }
def cl_lowest : List (Nat × Sig) := [(107, sg_size), (106, sg_divisor), (75, sg_within)]
theorem run_lowest : run ⟨Tryd.prog, glb, cl_lowest⟩ [] Tryd.f79 sg_lowest (Tryd.f79.body.getD .skip) = tr_lowest := by kernel_rfl
theorem om_lowest : ΩOK ⟨Tryd.prog, glb, cl_lowest⟩ (specsOf Fs_lowest) := (ΩOK_cons con_size Tryd.call107 (ΩOK_cons con_divisor Tryd.call106 (ΩOK_cons cong_within Tryd.call75 ΩOK_nil)))
theorem con_lowest : ConOK Tryd.prog glb 79 sg_lowest F_lowest.spec := conOK_tree om_lowest mixed Tryd.func79 (by kernel_rfl) run_lowest
theorem cong_lowest : ConOK Tryd.prog glb 79 sg_lowest G_lowest.spec := con_lowest.as as_lowest

def sg_sFracValid : Sig := { args := [.ag [.e (.var 0), .e (.var 1), .e (.var 2)]], pre := [], tin := [.int .i64, .int .i64, .int .i64], gin := [], res := .c (.s (.e (.var 0))), post := [], tout := [.bool], gout := [] }
def cl_sFracValid : List (Nat × Sig) := [(88, sg_l2In), (89, sg_l6In), (90, sg_l2Gcd)]
theorem run_sFracValid : run ⟨Tryd.prog, glb, cl_sFracValid⟩ [] Tryd.f47 sg_sFracValid (Tryd.f47.body.getD .skip) = tr_sFracValid := by kernel_rfl
theorem om_sFracValid : ΩOK ⟨Tryd.prog, glb, cl_sFracValid⟩ (specsOf Fs_sFracValid) := (ΩOK_cons cong_l2In Tryd.call88 (ΩOK_cons cong_l6In Tryd.call89 (ΩOK_cons con_l2Gcd Tryd.call90 ΩOK_nil)))
theorem con_sFracValid : ConOK Tryd.prog glb 47 sg_sFracValid F_sFracValid.spec := conOK_tree om_sFracValid mixed Tryd.func47 (by kernel_rfl) run_sFracValid
theorem cong_sFracValid : ConOK Tryd.prog glb 47 sg_sFracValid G_sFracValid.spec := con_sFracValid.as as_sFracValid

def sg_l2Low : Sig := { args := [.s (.e (.var 0)), .s (.e (.var 1)), .s (.e (.var 2))], pre := [], tin := [.int .i64, .int .i64, .int .i64], gin := [], res := .tu [.ag [.e (.var 0), .e (.var 1), .e (.var 2)], .s (.e (.var 3))], post := [], tout := [.int .i64, .int .i64, .int .i64, .bool], gout := [] }
def cl_l2Low : List (Nat × Sig) := [(90, sg_l2Gcd), (47, sg_sFracValid)]
theorem run_l2Low : run ⟨Tryd.prog, glb, cl_l2Low⟩ [] Tryd.f86 sg_l2Low (Tryd.f86.body.getD .skip) = tr_l2Low := by kernel_rfl
theorem om_l2Low : ΩOK ⟨Tryd.prog, glb, cl_l2Low⟩ (specsOf Fs_l2Low) := (ΩOK_cons con_l2Gcd Tryd.call90 (ΩOK_cons cong_sFracValid Tryd.call47 ΩOK_nil))
theorem con_l2Low : ConOK Tryd.prog glb 86 sg_l2Low F_l2Low.spec := conOK_tree om_l2Low mixed Tryd.func86 (by kernel_rfl) run_l2Low
theorem cong_l2Low : ConOK Tryd.prog glb 86 sg_l2Low G_l2Low.spec := con_l2Low.as as_l2Low

def sg_sFracMake : Sig := { args := [.s (.e (.var 0)), .s (.e (.var 1)), .s (.e (.var 2))], pre := [], tin := [.int .i64, .int .i64, .int .i64], gin := [], res := .tu [.ag [.e (.var 0), .e (.var 1), .e (.var 2)], .s (.e (.var 3))], post := [], tout := [.int .i64, .int .i64, .int .i64, .bool], gout := [] }
def cl_sFracMake : List (Nat × Sig) := [(89, sg_l6In), (86, sg_l2Low)]
theorem run_sFracMake : run ⟨Tryd.prog, glb, cl_sFracMake⟩ [] Tryd.f114 sg_sFracMake (Tryd.f114.body.getD .skip) = tr_sFracMake := by kernel_rfl
theorem om_sFracMake : ΩOK ⟨Tryd.prog, glb, cl_sFracMake⟩ (specsOf Fs_sFracMake) := (ΩOK_cons cong_l6In Tryd.call89 (ΩOK_cons cong_l2Low Tryd.call86 ΩOK_nil))
theorem con_sFracMake : ConOK Tryd.prog glb 114 sg_sFracMake F_sFracMake.spec := conOK_tree om_sFracMake mixed Tryd.func114 (by kernel_rfl) run_sFracMake
theorem cong_sFracMake : ConOK Tryd.prog glb 114 sg_sFracMake G_sFracMake.spec := con_sFracMake.as as_sFracMake

def sg_l5Direction : Sig := { args := [.s (.e (.var 0)), .s (.e (.var 1))], pre := [], tin := [.int .i64, .int .i64], gin := [], res := .tu [.ag [.e (.var 0), .e (.var 1), .e (.var 2)], .ag [.e (.var 3), .e (.var 4), .e (.var 5)], .s (.e (.var 6))], post := [], tout := [.int .i64, .int .i64, .int .i64, .int .i64, .int .i64, .int .i64, .bool], gout := [] }
def cl_l5Direction : List (Nat × Sig) := [(89, sg_l6In), (114, sg_sFracMake)]
theorem run_l5Direction : run ⟨Tryd.prog, glb, cl_l5Direction⟩ [] Tryd.f115 sg_l5Direction (Tryd.f115.body.getD .skip) = tr_l5Direction := by kernel_rfl
theorem om_l5Direction : ΩOK ⟨Tryd.prog, glb, cl_l5Direction⟩ (specsOf Fs_l5Direction) := (ΩOK_cons cong_l6In Tryd.call89 (ΩOK_cons cong_sFracMake Tryd.call114 ΩOK_nil))
theorem con_l5Direction : ConOK Tryd.prog glb 115 sg_l5Direction F_l5Direction.spec := conOK_tree om_l5Direction mixed Tryd.func115 (by kernel_rfl) run_l5Direction
theorem cong_l5Direction : ConOK Tryd.prog glb 115 sg_l5Direction G_l5Direction.spec := con_l5Direction.as as_l5Direction

def sg_iFracValid : Sig := { args := [.ag [.e (.var 0), .e (.var 1), .e (.var 2)]], pre := [], tin := [.int .i64, .int .i64, .int .i64], gin := [], res := .c (.s (.e (.var 0))), post := [], tout := [.bool], gout := [] }
def cl_iFracValid : List (Nat × Sig) := [(75, sg_within), (106, sg_divisor), (107, sg_size)]
theorem run_iFracValid : run ⟨Tryd.prog, glb, cl_iFracValid⟩ [] Tryd.f87 sg_iFracValid (Tryd.f87.body.getD .skip) = tr_iFracValid := by kernel_rfl
theorem om_iFracValid : ΩOK ⟨Tryd.prog, glb, cl_iFracValid⟩ (specsOf Fs_iFracValid) := (ΩOK_cons cong_within Tryd.call75 (ΩOK_cons con_divisor Tryd.call106 (ΩOK_cons con_size Tryd.call107 ΩOK_nil)))
theorem con_iFracValid : ConOK Tryd.prog glb 87 sg_iFracValid F_iFracValid.spec := conOK_tree om_iFracValid mixed Tryd.func87 (by kernel_rfl) run_iFracValid
theorem cong_iFracValid : ConOK Tryd.prog glb 87 sg_iFracValid G_iFracValid.spec := con_iFracValid.as as_iFracValid

def sg_realOk : Sig := { args := [.ag [.e (.var 0), .e (.var 1), .e (.var 2)]], pre := [], tin := [.int .i64, .int .i64, .int .i64], gin := [], res := .c (.s (.e (.var 0))), post := [], tout := [.bool], gout := [] }
def cl_realOk : List (Nat × Sig) := [(87, sg_iFracValid)]
theorem run_realOk : run ⟨Tryd.prog, glb, cl_realOk⟩ [] Tryd.f45 sg_realOk (Tryd.f45.body.getD .skip) = tr_realOk := by kernel_rfl
theorem om_realOk : ΩOK ⟨Tryd.prog, glb, cl_realOk⟩ (specsOf Fs_realOk) := (ΩOK_cons cong_iFracValid Tryd.call87 ΩOK_nil)
theorem con_realOk : ConOK Tryd.prog glb 45 sg_realOk F_realOk.spec := conOK_tree om_realOk mixed Tryd.func45 (by kernel_rfl) run_realOk
theorem cong_realOk : ConOK Tryd.prog glb 45 sg_realOk G_realOk.spec := con_realOk.as as_realOk

def sg_iFracAdd : Sig := { args := [.ag [.e (.var 0), .e (.var 1), .e (.var 2)], .ag [.e (.var 3), .e (.var 4), .e (.var 5)]], pre := [], tin := [.int .i64, .int .i64, .int .i64, .int .i64, .int .i64, .int .i64], gin := [], res := .tu [.ag [.e (.var 0), .e (.var 1), .e (.var 2)], .s (.e (.var 3))], post := [], tout := [.int .i64, .int .i64, .int .i64, .bool], gout := [] }
def cl_iFracAdd : List (Nat × Sig) := [(87, sg_iFracValid), (79, sg_lowest)]
theorem run_iFracAdd : run ⟨Tryd.prog, glb, cl_iFracAdd⟩ [] Tryd.f95 sg_iFracAdd (Tryd.f95.body.getD .skip) = tr_iFracAdd := by kernel_rfl
theorem om_iFracAdd : ΩOK ⟨Tryd.prog, glb, cl_iFracAdd⟩ (specsOf Fs_iFracAdd) := (ΩOK_cons cong_iFracValid Tryd.call87 (ΩOK_cons cong_lowest Tryd.call79 ΩOK_nil))
theorem con_iFracAdd : ConOK Tryd.prog glb 95 sg_iFracAdd F_iFracAdd.spec := conOK_tree om_iFracAdd mixed Tryd.func95 (by kernel_rfl) run_iFracAdd
theorem cong_iFracAdd : ConOK Tryd.prog glb 95 sg_iFracAdd G_iFracAdd.spec := con_iFracAdd.as as_iFracAdd

def sg_iFracTimes : Sig := { args := [.ag [.e (.var 0), .e (.var 1), .e (.var 2)], .ag [.e (.var 3), .e (.var 4), .e (.var 5)]], pre := [], tin := [.int .i64, .int .i64, .int .i64, .int .i64, .int .i64, .int .i64], gin := [], res := .tu [.ag [.e (.var 0), .e (.var 1), .e (.var 2)], .s (.e (.var 3))], post := [], tout := [.int .i64, .int .i64, .int .i64, .bool], gout := [] }
def cl_iFracTimes : List (Nat × Sig) := [(87, sg_iFracValid), (79, sg_lowest)]
theorem run_iFracTimes : run ⟨Tryd.prog, glb, cl_iFracTimes⟩ [] Tryd.f93 sg_iFracTimes (Tryd.f93.body.getD .skip) = tr_iFracTimes := by kernel_rfl
theorem om_iFracTimes : ΩOK ⟨Tryd.prog, glb, cl_iFracTimes⟩ (specsOf Fs_iFracTimes) := (ΩOK_cons cong_iFracValid Tryd.call87 (ΩOK_cons cong_lowest Tryd.call79 ΩOK_nil))
theorem con_iFracTimes : ConOK Tryd.prog glb 93 sg_iFracTimes F_iFracTimes.spec := conOK_tree om_iFracTimes mixed Tryd.func93 (by kernel_rfl) run_iFracTimes
theorem cong_iFracTimes : ConOK Tryd.prog glb 93 sg_iFracTimes G_iFracTimes.spec := con_iFracTimes.as as_iFracTimes

def sg_l2Sum : Sig := { args := [.ag [.e (.var 0), .e (.var 1), .e (.var 2)], .s (.e (.var 3)), .ag [.e (.var 4), .e (.var 5), .e (.var 6)]], pre := [], tin := [.int .i64, .int .i64, .int .i64, .int .i64, .int .i64, .int .i64, .int .i64], gin := [], res := .tu [.ag [.e (.var 0), .e (.var 1), .e (.var 2)], .s (.e (.var 3))], post := [], tout := [.int .i64, .int .i64, .int .i64, .bool], gout := [] }
def cl_l2Sum : List (Nat × Sig) := [(47, sg_sFracValid), (86, sg_l2Low)]
theorem run_l2Sum : run ⟨Tryd.prog, glb, cl_l2Sum⟩ [] Tryd.f113 sg_l2Sum (Tryd.f113.body.getD .skip) = tr_l2Sum := by kernel_rfl
theorem om_l2Sum : ΩOK ⟨Tryd.prog, glb, cl_l2Sum⟩ (specsOf Fs_l2Sum) := (ΩOK_cons cong_sFracValid Tryd.call47 (ΩOK_cons cong_l2Low Tryd.call86 ΩOK_nil))
theorem con_l2Sum : ConOK Tryd.prog glb 113 sg_l2Sum F_l2Sum.spec := conOK_tree om_l2Sum mixed Tryd.func113 (by kernel_rfl) run_l2Sum
theorem cong_l2Sum : ConOK Tryd.prog glb 113 sg_l2Sum G_l2Sum.spec := con_l2Sum.as as_l2Sum

def sg_sFracAdd : Sig := { args := [.ag [.e (.var 0), .e (.var 1), .e (.var 2)], .ag [.e (.var 3), .e (.var 4), .e (.var 5)]], pre := [], tin := [.int .i64, .int .i64, .int .i64, .int .i64, .int .i64, .int .i64], gin := [], res := .tu [.ag [.e (.var 0), .e (.var 1), .e (.var 2)], .s (.e (.var 3))], post := [], tout := [.int .i64, .int .i64, .int .i64, .bool], gout := [] }
def cl_sFracAdd : List (Nat × Sig) := [(113, sg_l2Sum)]
theorem run_sFracAdd : run ⟨Tryd.prog, glb, cl_sFracAdd⟩ [] Tryd.f122 sg_sFracAdd (Tryd.f122.body.getD .skip) = tr_sFracAdd := by kernel_rfl
theorem om_sFracAdd : ΩOK ⟨Tryd.prog, glb, cl_sFracAdd⟩ (specsOf Fs_sFracAdd) := (ΩOK_cons cong_l2Sum Tryd.call113 ΩOK_nil)
theorem con_sFracAdd : ConOK Tryd.prog glb 122 sg_sFracAdd F_sFracAdd.spec := conOK_tree om_sFracAdd mixed Tryd.func122 (by kernel_rfl) run_sFracAdd
theorem cong_sFracAdd : ConOK Tryd.prog glb 122 sg_sFracAdd G_sFracAdd.spec := con_sFracAdd.as as_sFracAdd

def sg_sFracTimes : Sig := { args := [.ag [.e (.var 0), .e (.var 1), .e (.var 2)], .ag [.e (.var 3), .e (.var 4), .e (.var 5)]], pre := [], tin := [.int .i64, .int .i64, .int .i64, .int .i64, .int .i64, .int .i64], gin := [], res := .tu [.ag [.e (.var 0), .e (.var 1), .e (.var 2)], .s (.e (.var 3))], post := [], tout := [.int .i64, .int .i64, .int .i64, .bool], gout := [] }
def cl_sFracTimes : List (Nat × Sig) := [(47, sg_sFracValid), (86, sg_l2Low)]
theorem run_sFracTimes : run ⟨Tryd.prog, glb, cl_sFracTimes⟩ [] Tryd.f112 sg_sFracTimes (Tryd.f112.body.getD .skip) = tr_sFracTimes := by kernel_rfl
theorem om_sFracTimes : ΩOK ⟨Tryd.prog, glb, cl_sFracTimes⟩ (specsOf Fs_sFracTimes) := (ΩOK_cons cong_sFracValid Tryd.call47 (ΩOK_cons cong_l2Low Tryd.call86 ΩOK_nil))
theorem con_sFracTimes : ConOK Tryd.prog glb 112 sg_sFracTimes F_sFracTimes.spec := conOK_tree om_sFracTimes mixed Tryd.func112 (by kernel_rfl) run_sFracTimes
theorem cong_sFracTimes : ConOK Tryd.prog glb 112 sg_sFracTimes G_sFracTimes.spec := con_sFracTimes.as as_sFracTimes

def sg_keep : Sig := { args := [.s (.p (.own 0) 0), .ag [.e (.var 0), .e (.var 1), .e (.var 2)], .s (.e (.var 3))], pre := [⟨[.e (.var 4)], 84⟩], tin := [.int .i64, .int .i64, .int .i64, .bool, .bool], gin := [], res := .c (.ag [.e (.var 0), .e (.var 1), .e (.var 2)]), post := [⟨[.e (.var 3)], 84⟩], tout := [.int .i64, .int .i64, .int .i64, .bool], gout := [] }
def cl_keep : List (Nat × Sig) := []
theorem run_keep : run ⟨Tryd.prog, glb, cl_keep⟩ [] Tryd.f91 sg_keep (Tryd.f91.body.getD .skip) = tr_keep := by kernel_rfl
theorem om_keep : ΩOK ⟨Tryd.prog, glb, cl_keep⟩ (specsOf Fs_keep) := ΩOK_nil
theorem con_keep : ConOK Tryd.prog glb 91 sg_keep F_keep.spec := conOK_tree om_keep mixed Tryd.func91 (by kernel_rfl) run_keep

def sg_add : Sig := { args := [.s (.p (.own 0) 0), .ag [.e (.var 0), .e (.var 1), .e (.var 2)], .ag [.e (.var 3), .e (.var 4), .e (.var 5)]], pre := [⟨[.e (.var 6)], 84⟩], tin := [.int .i64, .int .i64, .int .i64, .int .i64, .int .i64, .int .i64, .bool], gin := [], res := .c (.ag [.e (.var 0), .e (.var 1), .e (.var 2)]), post := [⟨[.e (.var 3)], 84⟩], tout := [.int .i64, .int .i64, .int .i64, .bool], gout := [] }
def cl_add : List (Nat × Sig) := [(95, sg_iFracAdd), (91, sg_keep)]
theorem run_add : run ⟨Tryd.prog, glb, cl_add⟩ [] Tryd.f56 sg_add (Tryd.f56.body.getD .skip) = tr_add := by kernel_rfl
theorem om_add : ΩOK ⟨Tryd.prog, glb, cl_add⟩ (specsOf Fs_add) := (ΩOK_cons cong_iFracAdd Tryd.call95 (ΩOK_cons con_keep Tryd.call91 ΩOK_nil))
theorem con_add : ConOK Tryd.prog glb 56 sg_add F_add.spec := conOK_tree om_add mixed Tryd.func56 (by kernel_rfl) run_add
theorem cong_add : ConOK Tryd.prog glb 56 sg_add G_add.spec := con_add.as as_add

def sg_times : Sig := { args := [.s (.p (.own 0) 0), .ag [.e (.var 0), .e (.var 1), .e (.var 2)], .ag [.e (.var 3), .e (.var 4), .e (.var 5)]], pre := [⟨[.e (.var 6)], 84⟩], tin := [.int .i64, .int .i64, .int .i64, .int .i64, .int .i64, .int .i64, .bool], gin := [], res := .c (.ag [.e (.var 0), .e (.var 1), .e (.var 2)]), post := [⟨[.e (.var 3)], 84⟩], tout := [.int .i64, .int .i64, .int .i64, .bool], gout := [] }
def cl_times : List (Nat × Sig) := [(93, sg_iFracTimes), (91, sg_keep)]
theorem run_times : run ⟨Tryd.prog, glb, cl_times⟩ [] Tryd.f52 sg_times (Tryd.f52.body.getD .skip) = tr_times := by kernel_rfl
theorem om_times : ΩOK ⟨Tryd.prog, glb, cl_times⟩ (specsOf Fs_times) := (ΩOK_cons cong_iFracTimes Tryd.call93 (ΩOK_cons con_keep Tryd.call91 ΩOK_nil))
theorem con_times : ConOK Tryd.prog glb 52 sg_times F_times.spec := conOK_tree om_times mixed Tryd.func52 (by kernel_rfl) run_times
theorem cong_times : ConOK Tryd.prog glb 52 sg_times G_times.spec := con_times.as as_times

def sg_need : Sig := { args := [.s (.p (.own 0) 0), .s (.e (.var 0))], pre := [⟨[.e (.var 1)], 84⟩], tin := [.bool, .bool], gin := [], res := .c (.s (.p (.own 0) 0)), post := [⟨[.e (.var 0)], 84⟩], tout := [.bool], gout := [] }
def cl_need : List (Nat × Sig) := []
theorem run_need : run ⟨Tryd.prog, glb, cl_need⟩ [] Tryd.f49 sg_need (Tryd.f49.body.getD .skip) = tr_need := by kernel_rfl
theorem om_need : ΩOK ⟨Tryd.prog, glb, cl_need⟩ (specsOf Fs_need) := ΩOK_nil
theorem con_need : ConOK Tryd.prog glb 49 sg_need F_need.spec := conOK_tree om_need mixed Tryd.func49 (by kernel_rfl) run_need
theorem cong_need : ConOK Tryd.prog glb 49 sg_need G_need.spec := con_need.as as_need

def sg_iTableValid : Sig := { args := [.ag [.e (.var 0), .e (.var 1), .e (.var 2), .e (.var 3), .e (.var 4), .e (.var 5), .e (.var 6), .e (.var 7), .e (.var 8), .e (.var 9), .e (.var 10), .e (.var 11), .e (.var 12), .e (.var 13), .e (.var 14), .e (.var 15), .e (.var 16), .e (.var 17), .e (.var 18), .e (.var 19), .e (.var 20), .e (.var 21), .e (.var 22), .e (.var 23), .e (.var 24), .e (.var 25), .e (.var 26), .e (.var 27), .e (.var 28), .e (.var 29), .e (.var 30), .e (.var 31), .e (.var 32), .e (.var 33), .e (.var 34), .e (.var 35), .e (.var 36), .e (.var 37), .e (.var 38), .e (.var 39), .e (.var 40), .e (.var 41), .e (.var 42), .e (.var 43), .e (.var 44), .e (.var 45), .e (.var 46), .e (.var 47)]], pre := [], tin := [.int .i64, .int .i64, .int .i64, .int .i64, .int .i64, .int .i64, .int .i64, .int .i64, .int .i64, .int .i64, .int .i64, .int .i64, .int .i64, .int .i64, .int .i64, .int .i64, .int .i64, .int .i64, .int .i64, .int .i64, .int .i64, .int .i64, .int .i64, .int .i64, .int .i64, .int .i64, .int .i64, .int .i64, .int .i64, .int .i64, .int .i64, .int .i64, .int .i64, .int .i64, .int .i64, .int .i64, .int .i64, .int .i64, .int .i64, .int .i64, .int .i64, .int .i64, .int .i64, .int .i64, .int .i64, .int .i64, .int .i64, .int .i64], gin := [], res := .c (.s (.e (.var 0))), post := [], tout := [.bool], gout := [] }
def cl_iTableValid : List (Nat × Sig) := [(45, sg_realOk)]
theorem run_iTableValid : run ⟨Tryd.prog, glb, cl_iTableValid⟩ [] Tryd.f29 sg_iTableValid (Tryd.f29.body.getD .skip) = tr_iTableValid := by kernel_rfl
theorem om_iTableValid : ΩOK ⟨Tryd.prog, glb, cl_iTableValid⟩ (specsOf Fs_iTableValid) := (ΩOK_cons cong_realOk Tryd.call45 ΩOK_nil)
theorem con_iTableValid : ConOK Tryd.prog glb 29 sg_iTableValid F_iTableValid.spec := conOK_tree om_iTableValid mixed Tryd.func29 (by kernel_rfl) run_iTableValid
theorem cong_iTableValid : ConOK Tryd.prog glb 29 sg_iTableValid G_iTableValid.spec := con_iTableValid.as as_iTableValid

def sg_gotTable : Sig := { args := [.s (.p (.own 0) 0), .ag [.e (.var 0), .e (.var 1), .e (.var 2), .e (.var 3), .e (.var 4), .e (.var 5), .e (.var 6), .e (.var 7), .e (.var 8), .e (.var 9), .e (.var 10), .e (.var 11), .e (.var 12), .e (.var 13), .e (.var 14), .e (.var 15), .e (.var 16), .e (.var 17), .e (.var 18), .e (.var 19), .e (.var 20), .e (.var 21), .e (.var 22), .e (.var 23), .e (.var 24), .e (.var 25), .e (.var 26), .e (.var 27), .e (.var 28), .e (.var 29), .e (.var 30), .e (.var 31), .e (.var 32), .e (.var 33), .e (.var 34), .e (.var 35), .e (.var 36), .e (.var 37), .e (.var 38), .e (.var 39), .e (.var 40), .e (.var 41), .e (.var 42), .e (.var 43), .e (.var 44), .e (.var 45), .e (.var 46), .e (.var 47)]], pre := [⟨[.e (.var 48)], 84⟩], tin := [.int .i64, .int .i64, .int .i64, .int .i64, .int .i64, .int .i64, .int .i64, .int .i64, .int .i64, .int .i64, .int .i64, .int .i64, .int .i64, .int .i64, .int .i64, .int .i64, .int .i64, .int .i64, .int .i64, .int .i64, .int .i64, .int .i64, .int .i64, .int .i64, .int .i64, .int .i64, .int .i64, .int .i64, .int .i64, .int .i64, .int .i64, .int .i64, .int .i64, .int .i64, .int .i64, .int .i64, .int .i64, .int .i64, .int .i64, .int .i64, .int .i64, .int .i64, .int .i64, .int .i64, .int .i64, .int .i64, .int .i64, .int .i64, .bool], gin := [], res := .tu [.ag [.e (.var 0), .e (.var 1), .e (.var 2), .e (.var 3), .e (.var 4), .e (.var 5), .e (.var 6), .e (.var 7), .e (.var 8), .e (.var 9), .e (.var 10), .e (.var 11), .e (.var 12), .e (.var 13), .e (.var 14), .e (.var 15), .e (.var 16), .e (.var 17), .e (.var 18), .e (.var 19), .e (.var 20), .e (.var 21), .e (.var 22), .e (.var 23), .e (.var 24), .e (.var 25), .e (.var 26), .e (.var 27), .e (.var 28), .e (.var 29), .e (.var 30), .e (.var 31), .e (.var 32), .e (.var 33), .e (.var 34), .e (.var 35), .e (.var 36), .e (.var 37), .e (.var 38), .e (.var 39), .e (.var 40), .e (.var 41), .e (.var 42), .e (.var 43), .e (.var 44), .e (.var 45), .e (.var 46), .e (.var 47)], .s (.e (.var 48))], post := [⟨[.e (.var 49)], 84⟩], tout := [.int .i64, .int .i64, .int .i64, .int .i64, .int .i64, .int .i64, .int .i64, .int .i64, .int .i64, .int .i64, .int .i64, .int .i64, .int .i64, .int .i64, .int .i64, .int .i64, .int .i64, .int .i64, .int .i64, .int .i64, .int .i64, .int .i64, .int .i64, .int .i64, .int .i64, .int .i64, .int .i64, .int .i64, .int .i64, .int .i64, .int .i64, .int .i64, .int .i64, .int .i64, .int .i64, .int .i64, .int .i64, .int .i64, .int .i64, .int .i64, .int .i64, .int .i64, .int .i64, .int .i64, .int .i64, .int .i64, .int .i64, .int .i64, .bool, .bool], gout := [] }
def cl_gotTable : List (Nat × Sig) := []
theorem run_gotTable : run ⟨Tryd.prog, glb, cl_gotTable⟩ [] Tryd.f72 sg_gotTable (Tryd.f72.body.getD .skip) = tr_gotTable := by kernel_rfl
theorem om_gotTable : ΩOK ⟨Tryd.prog, glb, cl_gotTable⟩ (specsOf Fs_gotTable) := ΩOK_nil
theorem con_gotTable : ConOK Tryd.prog glb 72 sg_gotTable F_gotTable.spec := conOK_tree om_gotTable mixed Tryd.func72 (by kernel_rfl) run_gotTable
theorem cong_gotTable : ConOK Tryd.prog glb 72 sg_gotTable G_gotTable.spec := con_gotTable.as as_gotTable

def sg_gotStokes : Sig := { args := [.s (.p (.own 0) 0), .ag [.e (.var 0), .e (.var 1), .e (.var 2), .e (.var 3), .e (.var 4), .e (.var 5), .e (.var 6), .e (.var 7), .e (.var 8), .e (.var 9), .e (.var 10), .e (.var 11)]], pre := [⟨[.e (.var 12)], 84⟩], tin := [.int .i64, .int .i64, .int .i64, .int .i64, .int .i64, .int .i64, .int .i64, .int .i64, .int .i64, .int .i64, .int .i64, .int .i64, .bool], gin := [], res := .tu [.ag [.e (.var 0), .e (.var 1), .e (.var 2), .e (.var 3), .e (.var 4), .e (.var 5), .e (.var 6), .e (.var 7), .e (.var 8), .e (.var 9), .e (.var 10), .e (.var 11)], .s (.e (.var 12))], post := [⟨[.e (.var 13)], 84⟩], tout := [.int .i64, .int .i64, .int .i64, .int .i64, .int .i64, .int .i64, .int .i64, .int .i64, .int .i64, .int .i64, .int .i64, .int .i64, .bool, .bool], gout := [] }
def cl_gotStokes : List (Nat × Sig) := []
theorem run_gotStokes : run ⟨Tryd.prog, glb, cl_gotStokes⟩ [] Tryd.f55 sg_gotStokes (Tryd.f55.body.getD .skip) = tr_gotStokes := by kernel_rfl
theorem om_gotStokes : ΩOK ⟨Tryd.prog, glb, cl_gotStokes⟩ (specsOf Fs_gotStokes) := ΩOK_nil
theorem con_gotStokes : ConOK Tryd.prog glb 55 sg_gotStokes F_gotStokes.spec := conOK_tree om_gotStokes mixed Tryd.func55 (by kernel_rfl) run_gotStokes
theorem cong_gotStokes : ConOK Tryd.prog glb 55 sg_gotStokes G_gotStokes.spec := con_gotStokes.as as_gotStokes

def sg_iStokesValid : Sig := { args := [.ag [.e (.var 0), .e (.var 1), .e (.var 2), .e (.var 3), .e (.var 4), .e (.var 5), .e (.var 6), .e (.var 7), .e (.var 8), .e (.var 9), .e (.var 10), .e (.var 11)]], pre := [], tin := [.int .i64, .int .i64, .int .i64, .int .i64, .int .i64, .int .i64, .int .i64, .int .i64, .int .i64, .int .i64, .int .i64, .int .i64], gin := [], res := .c (.s (.e (.var 0))), post := [], tout := [.bool], gout := [] }
def cl_iStokesValid : List (Nat × Sig) := [(45, sg_realOk)]
theorem run_iStokesValid : run ⟨Tryd.prog, glb, cl_iStokesValid⟩ [] Tryd.f60 sg_iStokesValid (Tryd.f60.body.getD .skip) = tr_iStokesValid := by kernel_rfl
theorem om_iStokesValid : ΩOK ⟨Tryd.prog, glb, cl_iStokesValid⟩ (specsOf Fs_iStokesValid) := (ΩOK_cons cong_realOk Tryd.call45 ΩOK_nil)
theorem con_iStokesValid : ConOK Tryd.prog glb 60 sg_iStokesValid F_iStokesValid.spec := conOK_tree om_iStokesValid mixed Tryd.func60 (by kernel_rfl) run_iStokesValid
theorem cong_iStokesValid : ConOK Tryd.prog glb 60 sg_iStokesValid G_iStokesValid.spec := con_iStokesValid.as as_iStokesValid

def sg_iTableApply : Sig := { args := [.ag [.e (.var 0), .e (.var 1), .e (.var 2), .e (.var 3), .e (.var 4), .e (.var 5), .e (.var 6), .e (.var 7), .e (.var 8), .e (.var 9), .e (.var 10), .e (.var 11), .e (.var 12), .e (.var 13), .e (.var 14), .e (.var 15), .e (.var 16), .e (.var 17), .e (.var 18), .e (.var 19), .e (.var 20), .e (.var 21), .e (.var 22), .e (.var 23), .e (.var 24), .e (.var 25), .e (.var 26), .e (.var 27), .e (.var 28), .e (.var 29), .e (.var 30), .e (.var 31), .e (.var 32), .e (.var 33), .e (.var 34), .e (.var 35), .e (.var 36), .e (.var 37), .e (.var 38), .e (.var 39), .e (.var 40), .e (.var 41), .e (.var 42), .e (.var 43), .e (.var 44), .e (.var 45), .e (.var 46), .e (.var 47)], .ag [.e (.var 48), .e (.var 49), .e (.var 50), .e (.var 51), .e (.var 52), .e (.var 53), .e (.var 54), .e (.var 55), .e (.var 56), .e (.var 57), .e (.var 58), .e (.var 59)]], pre := [], tin := [.int .i64, .int .i64, .int .i64, .int .i64, .int .i64, .int .i64, .int .i64, .int .i64, .int .i64, .int .i64, .int .i64, .int .i64, .int .i64, .int .i64, .int .i64, .int .i64, .int .i64, .int .i64, .int .i64, .int .i64, .int .i64, .int .i64, .int .i64, .int .i64, .int .i64, .int .i64, .int .i64, .int .i64, .int .i64, .int .i64, .int .i64, .int .i64, .int .i64, .int .i64, .int .i64, .int .i64, .int .i64, .int .i64, .int .i64, .int .i64, .int .i64, .int .i64, .int .i64, .int .i64, .int .i64, .int .i64, .int .i64, .int .i64, .int .i64, .int .i64, .int .i64, .int .i64, .int .i64, .int .i64, .int .i64, .int .i64, .int .i64, .int .i64, .int .i64, .int .i64], gin := [], res := .tu [.ag [.e (.var 0), .e (.var 1), .e (.var 2), .e (.var 3), .e (.var 4), .e (.var 5), .e (.var 6), .e (.var 7), .e (.var 8), .e (.var 9), .e (.var 10), .e (.var 11)], .s (.e (.var 12))], post := [], tout := [.int .i64, .int .i64, .int .i64, .int .i64, .int .i64, .int .i64, .int .i64, .int .i64, .int .i64, .int .i64, .int .i64, .int .i64, .bool], gout := [] }
def cl_iTableApply : List (Nat × Sig) := [(29, sg_iTableValid), (60, sg_iStokesValid), (49, sg_need), (52, sg_times), (56, sg_add), (55, sg_gotStokes)]
theorem run_iTableApply : run ⟨Tryd.prog, glb, cl_iTableApply⟩ [] Tryd.f18 sg_iTableApply (Tryd.f18.body.getD .skip) = tr_iTableApply := by kernel_rfl
theorem om_iTableApply : ΩOK ⟨Tryd.prog, glb, cl_iTableApply⟩ (specsOf Fs_iTableApply) := (ΩOK_cons cong_iTableValid Tryd.call29 (ΩOK_cons cong_iStokesValid Tryd.call60 (ΩOK_cons cong_need Tryd.call49 (ΩOK_cons cong_times Tryd.call52 (ΩOK_cons cong_add Tryd.call56 (ΩOK_cons cong_gotStokes Tryd.call55 ΩOK_nil))))))
theorem con_iTableApply : ConOK Tryd.prog glb 18 sg_iTableApply F_iTableApply.spec := conOK_tree om_iTableApply mixed Tryd.func18 (by kernel_rfl) run_iTableApply
theorem cong_iTableApply : ConOK Tryd.prog glb 18 sg_iTableApply G_iTableApply.spec := con_iTableApply.as as_iTableApply

def sg_l3Inner : Sig := { args := [.ag [.e (.var 0), .e (.var 1), .e (.var 2)], .ag [.e (.var 3), .e (.var 4), .e (.var 5)], .ag [.e (.var 6), .e (.var 7), .e (.var 8)], .ag [.e (.var 9), .e (.var 10), .e (.var 11)]], pre := [], tin := [.int .i64, .int .i64, .int .i64, .int .i64, .int .i64, .int .i64, .int .i64, .int .i64, .int .i64, .int .i64, .int .i64, .int .i64], gin := [], res := .tu [.ag [.e (.var 0), .e (.var 1), .e (.var 2)], .s (.e (.var 3))], post := [], tout := [.int .i64, .int .i64, .int .i64, .bool], gout := [] }
def cl_l3Inner : List (Nat × Sig) := [(112, sg_sFracTimes), (122, sg_sFracAdd)]
theorem run_l3Inner : run ⟨Tryd.prog, glb, cl_l3Inner⟩ [] Tryd.f121 sg_l3Inner (Tryd.f121.body.getD .skip) = tr_l3Inner := by kernel_rfl
theorem om_l3Inner : ΩOK ⟨Tryd.prog, glb, cl_l3Inner⟩ (specsOf Fs_l3Inner) := (ΩOK_cons cong_sFracTimes Tryd.call112 (ΩOK_cons cong_sFracAdd Tryd.call122 ΩOK_nil))
theorem con_l3Inner : ConOK Tryd.prog glb 121 sg_l3Inner F_l3Inner.spec := conOK_tree om_l3Inner mixed Tryd.func121 (by kernel_rfl) run_l3Inner
theorem cong_l3Inner : ConOK Tryd.prog glb 121 sg_l3Inner G_l3Inner.spec := con_l3Inner.as as_l3Inner

def sg_iMatValid : Sig := { args := [.ag [.e (.var 0), .e (.var 1), .e (.var 2), .e (.var 3), .e (.var 4), .e (.var 5), .e (.var 6), .e (.var 7), .e (.var 8), .e (.var 9), .e (.var 10), .e (.var 11)]], pre := [], tin := [.int .i64, .int .i64, .int .i64, .int .i64, .int .i64, .int .i64, .int .i64, .int .i64, .int .i64, .int .i64, .int .i64, .int .i64], gin := [], res := .c (.s (.e (.var 0))), post := [], tout := [.bool], gout := [] }
def cl_iMatValid : List (Nat × Sig) := [(87, sg_iFracValid)]
theorem run_iMatValid : run ⟨Tryd.prog, glb, cl_iMatValid⟩ [] Tryd.f68 sg_iMatValid (Tryd.f68.body.getD .skip) = tr_iMatValid := by kernel_rfl
theorem om_iMatValid : ΩOK ⟨Tryd.prog, glb, cl_iMatValid⟩ (specsOf Fs_iMatValid) := (ΩOK_cons cong_iFracValid Tryd.call87 ΩOK_nil)
theorem con_iMatValid : ConOK Tryd.prog glb 68 sg_iMatValid F_iMatValid.spec := conOK_tree om_iMatValid mixed Tryd.func68 (by kernel_rfl) run_iMatValid
theorem cong_iMatValid : ConOK Tryd.prog glb 68 sg_iMatValid G_iMatValid.spec := con_iMatValid.as as_iMatValid

def sg_sMatValid : Sig := { args := [.ag [.e (.var 0), .e (.var 1), .e (.var 2), .e (.var 3), .e (.var 4), .e (.var 5), .e (.var 6), .e (.var 7), .e (.var 8), .e (.var 9), .e (.var 10), .e (.var 11)]], pre := [], tin := [.int .i64, .int .i64, .int .i64, .int .i64, .int .i64, .int .i64, .int .i64, .int .i64, .int .i64, .int .i64, .int .i64, .int .i64], gin := [], res := .c (.s (.e (.var 0))), post := [], tout := [.bool], gout := [] }
def cl_sMatValid : List (Nat × Sig) := [(47, sg_sFracValid)]
theorem run_sMatValid : run ⟨Tryd.prog, glb, cl_sMatValid⟩ [] Tryd.f64 sg_sMatValid (Tryd.f64.body.getD .skip) = tr_sMatValid := by kernel_rfl
theorem om_sMatValid : ΩOK ⟨Tryd.prog, glb, cl_sMatValid⟩ (specsOf Fs_sMatValid) := (ΩOK_cons cong_sFracValid Tryd.call47 ΩOK_nil)
theorem con_sMatValid : ConOK Tryd.prog glb 64 sg_sMatValid F_sMatValid.spec := conOK_tree om_sMatValid mixed Tryd.func64 (by kernel_rfl) run_sMatValid
theorem cong_sMatValid : ConOK Tryd.prog glb 64 sg_sMatValid G_sMatValid.spec := con_sMatValid.as as_sMatValid

def sg_iFracLess : Sig := { args := [.ag [.e (.var 0), .e (.var 1), .e (.var 2)], .ag [.e (.var 3), .e (.var 4), .e (.var 5)]], pre := [], tin := [.int .i64, .int .i64, .int .i64, .int .i64, .int .i64, .int .i64], gin := [], res := .tu [.ag [.e (.var 0), .e (.var 1), .e (.var 2)], .s (.e (.var 3))], post := [], tout := [.int .i64, .int .i64, .int .i64, .bool], gout := [] }
def cl_iFracLess : List (Nat × Sig) := [(87, sg_iFracValid), (79, sg_lowest)]
theorem run_iFracLess : run ⟨Tryd.prog, glb, cl_iFracLess⟩ [] Tryd.f96 sg_iFracLess (Tryd.f96.body.getD .skip) = tr_iFracLess := by kernel_rfl
theorem om_iFracLess : ΩOK ⟨Tryd.prog, glb, cl_iFracLess⟩ (specsOf Fs_iFracLess) := (ΩOK_cons cong_iFracValid Tryd.call87 (ΩOK_cons cong_lowest Tryd.call79 ΩOK_nil))
theorem con_iFracLess : ConOK Tryd.prog glb 96 sg_iFracLess F_iFracLess.spec := conOK_tree om_iFracLess mixed Tryd.func96 (by kernel_rfl) run_iFracLess
theorem cong_iFracLess : ConOK Tryd.prog glb 96 sg_iFracLess G_iFracLess.spec := con_iFracLess.as as_iFracLess

def sg_iFracMirror : Sig := { args := [.ag [.e (.var 0), .e (.var 1), .e (.var 2)]], pre := [], tin := [.int .i64, .int .i64, .int .i64], gin := [], res := .tu [.ag [.e (.var 0), .e (.var 1), .e (.var 2)], .s (.e (.var 3))], post := [], tout := [.int .i64, .int .i64, .int .i64, .bool], gout := [] }
def cl_iFracMirror : List (Nat × Sig) := [(87, sg_iFracValid)]
theorem run_iFracMirror : run ⟨Tryd.prog, glb, cl_iFracMirror⟩ [] Tryd.f94 sg_iFracMirror (Tryd.f94.body.getD .skip) = tr_iFracMirror := by kernel_rfl
theorem om_iFracMirror : ΩOK ⟨Tryd.prog, glb, cl_iFracMirror⟩ (specsOf Fs_iFracMirror) := (ΩOK_cons cong_iFracValid Tryd.call87 ΩOK_nil)
theorem con_iFracMirror : ConOK Tryd.prog glb 94 sg_iFracMirror F_iFracMirror.spec := conOK_tree om_iFracMirror mixed Tryd.func94 (by kernel_rfl) run_iFracMirror
theorem cong_iFracMirror : ConOK Tryd.prog glb 94 sg_iFracMirror G_iFracMirror.spec := con_iFracMirror.as as_iFracMirror

def sg_sFracMirror : Sig := { args := [.ag [.e (.var 0), .e (.var 1), .e (.var 2)]], pre := [], tin := [.int .i64, .int .i64, .int .i64], gin := [], res := .tu [.ag [.e (.var 0), .e (.var 1), .e (.var 2)], .s (.e (.var 3))], post := [], tout := [.int .i64, .int .i64, .int .i64, .bool], gout := [] }
def cl_sFracMirror : List (Nat × Sig) := [(47, sg_sFracValid)]
theorem run_sFracMirror : run ⟨Tryd.prog, glb, cl_sFracMirror⟩ [] Tryd.f111 sg_sFracMirror (Tryd.f111.body.getD .skip) = tr_sFracMirror := by kernel_rfl
theorem om_sFracMirror : ΩOK ⟨Tryd.prog, glb, cl_sFracMirror⟩ (specsOf Fs_sFracMirror) := (ΩOK_cons cong_sFracValid Tryd.call47 ΩOK_nil)
theorem con_sFracMirror : ConOK Tryd.prog glb 111 sg_sFracMirror F_sFracMirror.spec := conOK_tree om_sFracMirror mixed Tryd.func111 (by kernel_rfl) run_sFracMirror
theorem cong_sFracMirror : ConOK Tryd.prog glb 111 sg_sFracMirror G_sFracMirror.spec := con_sFracMirror.as as_sFracMirror

def sg_iFracPower : Sig := { args := [.ag [.e (.var 0), .e (.var 1), .e (.var 2)]], pre := [], tin := [.int .i64, .int .i64, .int .i64], gin := [], res := .tu [.ag [.e (.var 0), .e (.var 1), .e (.var 2)], .s (.e (.var 3))], post := [], tout := [.int .i64, .int .i64, .int .i64, .bool], gout := [] }
def cl_iFracPower : List (Nat × Sig) := [(87, sg_iFracValid), (79, sg_lowest)]
theorem run_iFracPower : run ⟨Tryd.prog, glb, cl_iFracPower⟩ [] Tryd.f92 sg_iFracPower (Tryd.f92.body.getD .skip) = tr_iFracPower := by kernel_rfl
theorem om_iFracPower : ΩOK ⟨Tryd.prog, glb, cl_iFracPower⟩ (specsOf Fs_iFracPower) := (ΩOK_cons cong_iFracValid Tryd.call87 (ΩOK_cons cong_lowest Tryd.call79 ΩOK_nil))
theorem con_iFracPower : ConOK Tryd.prog glb 92 sg_iFracPower F_iFracPower.spec := conOK_tree om_iFracPower mixed Tryd.func92 (by kernel_rfl) run_iFracPower
theorem cong_iFracPower : ConOK Tryd.prog glb 92 sg_iFracPower G_iFracPower.spec := con_iFracPower.as as_iFracPower

def sg_iHalf : Sig := { args := [.ag [.e (.var 0), .e (.var 1), .e (.var 2)], .ag [.e (.int .i64 (2)), .e (.int .i64 (0)), .e (.int .i64 (1))]], pre := [], tin := [.int .i64, .int .i64, .int .i64], gin := [], res := .tu [.ag [.e (.var 0), .e (.var 1), .e (.var 2)], .s (.e (.var 3))], post := [], tout := [.int .i64, .int .i64, .int .i64, .bool], gout := [] }
def cl_iHalf : List (Nat × Sig) := [(87, sg_iFracValid), (79, sg_lowest), (93, sg_iFracTimes)]
theorem run_iHalf : run ⟨Tryd.prog, glb, cl_iHalf⟩ [] Tryd.f100 sg_iHalf (Tryd.f100.body.getD .skip) = tr_iHalf := by kernel_rfl
theorem om_iHalf : ΩOK ⟨Tryd.prog, glb, cl_iHalf⟩ (specsOf Fs_iHalf) := (ΩOK_cons cong_iFracValid Tryd.call87 (ΩOK_cons cong_lowest Tryd.call79 (ΩOK_cons cong_iFracTimes Tryd.call93 ΩOK_nil)))
theorem con_iHalf : ConOK Tryd.prog glb 100 sg_iHalf F_iHalf.spec := conOK_tree om_iHalf mixed Tryd.func100 (by kernel_rfl) run_iHalf
theorem cong_iHalf : ConOK Tryd.prog glb 100 sg_iHalf G_iHalf.spec := con_iHalf.as as_iHalf

def sg_whole2 : Sig := { args := [.s (.e (.int .i64 (2)))], pre := [], tin := [], gin := [], res := .c (.ag [.e (.int .i64 (2)), .e (.int .i64 (0)), .e (.int .i64 (1))]), post := [], tout := [], gout := [] }
def cl_whole2 : List (Nat × Sig) := []
theorem run_whole2 : run ⟨Tryd.prog, glb, cl_whole2⟩ [] Tryd.f54 sg_whole2 (Tryd.f54.body.getD .skip) = tr_whole2 := by kernel_rfl
theorem om_whole2 : ΩOK ⟨Tryd.prog, glb, cl_whole2⟩ (specsOf Fs_whole2) := ΩOK_nil
theorem con_whole2 : ConOK Tryd.prog glb 54 sg_whole2 F_whole2.spec := conOK_tree om_whole2 mixed Tryd.func54 (by kernel_rfl) run_whole2

def sg_less : Sig := { args := [.s (.p (.own 0) 0), .ag [.e (.var 0), .e (.var 1), .e (.var 2)], .ag [.e (.var 3), .e (.var 4), .e (.var 5)]], pre := [⟨[.e (.var 6)], 84⟩], tin := [.int .i64, .int .i64, .int .i64, .int .i64, .int .i64, .int .i64, .bool], gin := [], res := .c (.ag [.e (.var 0), .e (.var 1), .e (.var 2)]), post := [⟨[.e (.var 3)], 84⟩], tout := [.int .i64, .int .i64, .int .i64, .bool], gout := [] }
def cl_less : List (Nat × Sig) := [(96, sg_iFracLess), (91, sg_keep)]
theorem run_less : run ⟨Tryd.prog, glb, cl_less⟩ [] Tryd.f57 sg_less (Tryd.f57.body.getD .skip) = tr_less := by kernel_rfl
theorem om_less : ΩOK ⟨Tryd.prog, glb, cl_less⟩ (specsOf Fs_less) := (ΩOK_cons cong_iFracLess Tryd.call96 (ΩOK_cons con_keep Tryd.call91 ΩOK_nil))
theorem con_less : ConOK Tryd.prog glb 57 sg_less F_less.spec := conOK_tree om_less mixed Tryd.func57 (by kernel_rfl) run_less
theorem cong_less : ConOK Tryd.prog glb 57 sg_less G_less.spec := con_less.as as_less

def sg_mirror : Sig := { args := [.s (.p (.own 0) 0), .ag [.e (.var 0), .e (.var 1), .e (.var 2)]], pre := [⟨[.e (.var 3)], 84⟩], tin := [.int .i64, .int .i64, .int .i64, .bool], gin := [], res := .c (.ag [.e (.var 0), .e (.var 1), .e (.var 2)]), post := [⟨[.e (.var 3)], 84⟩], tout := [.int .i64, .int .i64, .int .i64, .bool], gout := [] }
def cl_mirror : List (Nat × Sig) := [(94, sg_iFracMirror), (91, sg_keep)]
theorem run_mirror : run ⟨Tryd.prog, glb, cl_mirror⟩ [] Tryd.f53 sg_mirror (Tryd.f53.body.getD .skip) = tr_mirror := by kernel_rfl
theorem om_mirror : ΩOK ⟨Tryd.prog, glb, cl_mirror⟩ (specsOf Fs_mirror) := (ΩOK_cons cong_iFracMirror Tryd.call94 (ΩOK_cons con_keep Tryd.call91 ΩOK_nil))
theorem con_mirror : ConOK Tryd.prog glb 53 sg_mirror F_mirror.spec := conOK_tree om_mirror mixed Tryd.func53 (by kernel_rfl) run_mirror
theorem cong_mirror : ConOK Tryd.prog glb 53 sg_mirror G_mirror.spec := con_mirror.as as_mirror

def sg_power : Sig := { args := [.s (.p (.own 0) 0), .ag [.e (.var 0), .e (.var 1), .e (.var 2)]], pre := [⟨[.e (.var 3)], 84⟩], tin := [.int .i64, .int .i64, .int .i64, .bool], gin := [], res := .c (.ag [.e (.var 0), .e (.var 1), .e (.var 2)]), post := [⟨[.e (.var 3)], 84⟩], tout := [.int .i64, .int .i64, .int .i64, .bool], gout := [] }
def cl_power : List (Nat × Sig) := [(92, sg_iFracPower), (91, sg_keep)]
theorem run_power : run ⟨Tryd.prog, glb, cl_power⟩ [] Tryd.f51 sg_power (Tryd.f51.body.getD .skip) = tr_power := by kernel_rfl
theorem om_power : ΩOK ⟨Tryd.prog, glb, cl_power⟩ (specsOf Fs_power) := (ΩOK_cons cong_iFracPower Tryd.call92 (ΩOK_cons con_keep Tryd.call91 ΩOK_nil))
theorem con_power : ConOK Tryd.prog glb 51 sg_power F_power.spec := conOK_tree om_power mixed Tryd.func51 (by kernel_rfl) run_power
theorem cong_power : ConOK Tryd.prog glb 51 sg_power G_power.spec := con_power.as as_power

def sg_overTwo : Sig := { args := [.s (.p (.own 0) 0), .ag [.e (.var 0), .e (.var 1), .e (.var 2)], .ag [.e (.int .i64 (2)), .e (.int .i64 (0)), .e (.int .i64 (1))]], pre := [⟨[.e (.var 3)], 84⟩], tin := [.int .i64, .int .i64, .int .i64, .bool], gin := [], res := .c (.ag [.e (.var 0), .e (.var 1), .e (.var 2)]), post := [⟨[.e (.var 3)], 84⟩], tout := [.int .i64, .int .i64, .int .i64, .bool], gout := [] }
def cl_overTwo : List (Nat × Sig) := [(100, sg_iHalf), (91, sg_keep)]
theorem run_overTwo : run ⟨Tryd.prog, glb, cl_overTwo⟩ [] Tryd.f71 sg_overTwo (Tryd.f71.body.getD .skip) = tr_overTwo := by kernel_rfl
theorem om_overTwo : ΩOK ⟨Tryd.prog, glb, cl_overTwo⟩ (specsOf Fs_overTwo) := (ΩOK_cons cong_iHalf Tryd.call100 (ΩOK_cons con_keep Tryd.call91 ΩOK_nil))
theorem con_overTwo : ConOK Tryd.prog glb 71 sg_overTwo F_overTwo.spec := conOK_tree om_overTwo mixed Tryd.func71 (by kernel_rfl) run_overTwo
theorem cong_overTwo : ConOK Tryd.prog glb 71 sg_overTwo G_overTwo.spec := con_overTwo.as as_overTwo

def sg_real : Sig := { args := [.s (.p (.own 0) 0), .ag [.e (.var 0), .e (.var 1), .e (.var 2)]], pre := [⟨[.e (.var 3)], 84⟩], tin := [.int .i64, .int .i64, .int .i64, .bool], gin := [], res := .c (.ag [.e (.var 0), .e (.var 1), .e (.var 2)]), post := [⟨[.e (.var 3)], 84⟩], tout := [.int .i64, .int .i64, .int .i64, .bool], gout := [] }
def cl_real : List (Nat × Sig) := [(87, sg_iFracValid), (79, sg_lowest), (91, sg_keep)]
theorem run_real : run ⟨Tryd.prog, glb, cl_real⟩ [] Tryd.f58 sg_real (Tryd.f58.body.getD .skip) = tr_real := by kernel_rfl
theorem om_real : ΩOK ⟨Tryd.prog, glb, cl_real⟩ (specsOf Fs_real) := (ΩOK_cons cong_iFracValid Tryd.call87 (ΩOK_cons cong_lowest Tryd.call79 (ΩOK_cons con_keep Tryd.call91 ΩOK_nil)))
theorem con_real : ConOK Tryd.prog glb 58 sg_real F_real.spec := conOK_tree om_real mixed Tryd.func58 (by kernel_rfl) run_real
theorem cong_real : ConOK Tryd.prog glb 58 sg_real G_real.spec := con_real.as as_real

def sg_imag : Sig := { args := [.s (.p (.own 0) 0), .ag [.e (.var 0), .e (.var 1), .e (.var 2)]], pre := [⟨[.e (.var 3)], 84⟩], tin := [.int .i64, .int .i64, .int .i64, .bool], gin := [], res := .c (.ag [.e (.var 0), .e (.var 1), .e (.var 2)]), post := [⟨[.e (.var 3)], 84⟩], tout := [.int .i64, .int .i64, .int .i64, .bool], gout := [] }
def cl_imag : List (Nat × Sig) := [(87, sg_iFracValid), (79, sg_lowest), (91, sg_keep)]
theorem run_imag : run ⟨Tryd.prog, glb, cl_imag⟩ [] Tryd.f59 sg_imag (Tryd.f59.body.getD .skip) = tr_imag := by kernel_rfl
theorem om_imag : ΩOK ⟨Tryd.prog, glb, cl_imag⟩ (specsOf Fs_imag) := (ΩOK_cons cong_iFracValid Tryd.call87 (ΩOK_cons cong_lowest Tryd.call79 (ΩOK_cons con_keep Tryd.call91 ΩOK_nil)))
theorem con_imag : ConOK Tryd.prog glb 59 sg_imag F_imag.spec := conOK_tree om_imag mixed Tryd.func59 (by kernel_rfl) run_imag
theorem cong_imag : ConOK Tryd.prog glb 59 sg_imag G_imag.spec := con_imag.as as_imag

def sg_iPair : Sig := { args := [.ag [.e (.var 0), .e (.var 1), .e (.var 2)], .ag [.e (.var 3), .e (.var 4), .e (.var 5)], .s (.p (.own 0) 0)], pre := [⟨[.p (.own 1) 0], 82⟩, ⟨[.e (.var 6)], 84⟩], tin := [.int .i64, .int .i64, .int .i64, .int .i64, .int .i64, .int .i64, .bool], gin := [], res := .c (.ag [.e (.var 0), .e (.var 1), .e (.var 2)]), post := [⟨[.p (.own 1) 0], 82⟩, ⟨[.e (.var 3)], 84⟩], tout := [.int .i64, .int .i64, .int .i64, .bool], gout := [] }
def cl_iPair : List (Nat × Sig) := [(53, sg_mirror), (52, sg_times)]
theorem run_iPair : run ⟨Tryd.prog, glb, cl_iPair⟩ [] Tryd.f69 sg_iPair (Tryd.f69.body.getD .skip) = tr_iPair := by kernel_rfl
theorem om_iPair : ΩOK ⟨Tryd.prog, glb, cl_iPair⟩ (specsOf Fs_iPair) := (ΩOK_cons cong_mirror Tryd.call53 (ΩOK_cons cong_times Tryd.call52 ΩOK_nil))
theorem con_iPair : ConOK Tryd.prog glb 69 sg_iPair F_iPair.spec := conOK_tree om_iPair mixed Tryd.func69 (by kernel_rfl) run_iPair
theorem cong_iPair : ConOK Tryd.prog glb 69 sg_iPair G_iPair.spec := con_iPair.as as_iPair

def sg_iHalfS : Sig := { args := [.ag [.e (.var 0), .e (.var 1), .e (.var 2)], .s (.p (.own 0) 0)], pre := [⟨[.p (.own 1) 0], 82⟩, ⟨[.e (.var 3)], 84⟩], tin := [.int .i64, .int .i64, .int .i64, .bool], gin := [], res := .c (.ag [.e (.var 0), .e (.var 1), .e (.var 2)]), post := [⟨[.p (.own 1) 0], 82⟩, ⟨[.e (.var 3)], 84⟩], tout := [.int .i64, .int .i64, .int .i64, .bool], gout := [] }
def cl_iHalfS : List (Nat × Sig) := [(54, sg_whole2), (71, sg_overTwo)]
theorem run_iHalfS : run ⟨Tryd.prog, glb, cl_iHalfS⟩ [] Tryd.f70 sg_iHalfS (Tryd.f70.body.getD .skip) = tr_iHalfS := by kernel_rfl
theorem om_iHalfS : ΩOK ⟨Tryd.prog, glb, cl_iHalfS⟩ (specsOf Fs_iHalfS) := (ΩOK_cons con_whole2 Tryd.call54 (ΩOK_cons cong_overTwo Tryd.call71 ΩOK_nil))
theorem con_iHalfS : ConOK Tryd.prog glb 70 sg_iHalfS F_iHalfS.spec := conOK_tree om_iHalfS mixed Tryd.func70 (by kernel_rfl) run_iHalfS
theorem cong_iHalfS : ConOK Tryd.prog glb 70 sg_iHalfS G_iHalfS.spec := con_iHalfS.as as_iHalfS

def sg_l2SumP : Sig := { args := [.ag [.e (.var 0), .e (.var 1), .e (.var 2)], .s (.e (.int .i64 (1))), .ag [.e (.var 3), .e (.var 4), .e (.var 5)]], pre := [], tin := [.int .i64, .int .i64, .int .i64, .int .i64, .int .i64, .int .i64], gin := [], res := .tu [.ag [.e (.var 0), .e (.var 1), .e (.var 2)], .s (.e (.var 3))], post := [], tout := [.int .i64, .int .i64, .int .i64, .bool], gout := [] }
def cl_l2SumP : List (Nat × Sig) := [(47, sg_sFracValid), (86, sg_l2Low)]
theorem run_l2SumP : run ⟨Tryd.prog, glb, cl_l2SumP⟩ [] Tryd.f113 sg_l2SumP (Tryd.f113.body.getD .skip) = tr_l2SumP := by kernel_rfl
theorem om_l2SumP : ΩOK ⟨Tryd.prog, glb, cl_l2SumP⟩ (specsOf Fs_l2SumP) := (ΩOK_cons cong_sFracValid Tryd.call47 (ΩOK_cons cong_l2Low Tryd.call86 ΩOK_nil))
theorem con_l2SumP : ConOK Tryd.prog glb 113 sg_l2SumP F_l2SumP.spec := conOK_tree om_l2SumP mixed Tryd.func113 (by kernel_rfl) run_l2SumP
theorem cong_l2SumP : ConOK Tryd.prog glb 113 sg_l2SumP G_l2SumP.spec := con_l2SumP.as as_l2SumP

def sg_l2SumM : Sig := { args := [.ag [.e (.var 0), .e (.var 1), .e (.var 2)], .s (.e (.int .i64 (-1))), .ag [.e (.var 3), .e (.var 4), .e (.var 5)]], pre := [], tin := [.int .i64, .int .i64, .int .i64, .int .i64, .int .i64, .int .i64], gin := [], res := .tu [.ag [.e (.var 0), .e (.var 1), .e (.var 2)], .s (.e (.var 3))], post := [], tout := [.int .i64, .int .i64, .int .i64, .bool], gout := [] }
def cl_l2SumM : List (Nat × Sig) := [(47, sg_sFracValid), (86, sg_l2Low)]
theorem run_l2SumM : run ⟨Tryd.prog, glb, cl_l2SumM⟩ [] Tryd.f113 sg_l2SumM (Tryd.f113.body.getD .skip) = tr_l2SumM := by kernel_rfl
theorem om_l2SumM : ΩOK ⟨Tryd.prog, glb, cl_l2SumM⟩ (specsOf Fs_l2SumM) := (ΩOK_cons cong_sFracValid Tryd.call47 (ΩOK_cons cong_l2Low Tryd.call86 ΩOK_nil))
theorem con_l2SumM : ConOK Tryd.prog glb 113 sg_l2SumM F_l2SumM.spec := conOK_tree om_l2SumM mixed Tryd.func113 (by kernel_rfl) run_l2SumM
theorem cong_l2SumM : ConOK Tryd.prog glb 113 sg_l2SumM G_l2SumM.spec := con_l2SumM.as as_l2SumM

def sg_l6tAddP : Sig := { args := [.s (.p (.own 0) 0), .ag [.e (.var 0), .e (.var 1), .e (.var 2)], .s (.e (.int .i64 (1))), .ag [.e (.var 3), .e (.var 4), .e (.var 5)]], pre := [⟨[.e (.var 6)], 97⟩], tin := [.int .i64, .int .i64, .int .i64, .int .i64, .int .i64, .int .i64, .bool], gin := [], res := .c (.ag [.e (.var 0), .e (.var 1), .e (.var 2)]), post := [⟨[.e (.var 3)], 97⟩], tout := [.int .i64, .int .i64, .int .i64, .bool], gout := [] }
def cl_l6tAddP : List (Nat × Sig) := [(113, sg_l2SumP)]
theorem run_l6tAddP : run ⟨Tryd.prog, glb, cl_l6tAddP⟩ [] Tryd.f98 sg_l6tAddP (Tryd.f98.body.getD .skip) = tr_l6tAddP := by kernel_rfl
theorem om_l6tAddP : ΩOK ⟨Tryd.prog, glb, cl_l6tAddP⟩ (specsOf Fs_l6tAddP) := (ΩOK_cons cong_l2SumP Tryd.call113 ΩOK_nil)
theorem con_l6tAddP : ConOK Tryd.prog glb 98 sg_l6tAddP F_l6tAddP.spec := conOK_tree om_l6tAddP mixed Tryd.func98 (by kernel_rfl) run_l6tAddP
theorem cong_l6tAddP : ConOK Tryd.prog glb 98 sg_l6tAddP G_l6tAddP.spec := con_l6tAddP.as as_l6tAddP

def sg_l6tAddM : Sig := { args := [.s (.p (.own 0) 0), .ag [.e (.var 0), .e (.var 1), .e (.var 2)], .s (.e (.int .i64 (-1))), .ag [.e (.var 3), .e (.var 4), .e (.var 5)]], pre := [⟨[.e (.var 6)], 97⟩], tin := [.int .i64, .int .i64, .int .i64, .int .i64, .int .i64, .int .i64, .bool], gin := [], res := .c (.ag [.e (.var 0), .e (.var 1), .e (.var 2)]), post := [⟨[.e (.var 3)], 97⟩], tout := [.int .i64, .int .i64, .int .i64, .bool], gout := [] }
def cl_l6tAddM : List (Nat × Sig) := [(113, sg_l2SumM)]
theorem run_l6tAddM : run ⟨Tryd.prog, glb, cl_l6tAddM⟩ [] Tryd.f98 sg_l6tAddM (Tryd.f98.body.getD .skip) = tr_l6tAddM := by kernel_rfl
theorem om_l6tAddM : ΩOK ⟨Tryd.prog, glb, cl_l6tAddM⟩ (specsOf Fs_l6tAddM) := (ΩOK_cons cong_l2SumM Tryd.call113 ΩOK_nil)
theorem con_l6tAddM : ConOK Tryd.prog glb 98 sg_l6tAddM F_l6tAddM.spec := conOK_tree om_l6tAddM mixed Tryd.func98 (by kernel_rfl) run_l6tAddM
theorem cong_l6tAddM : ConOK Tryd.prog glb 98 sg_l6tAddM G_l6tAddM.spec := con_l6tAddM.as as_l6tAddM

def sg_l6tPair : Sig := { args := [.s (.p (.own 0) 0), .ag [.e (.var 0), .e (.var 1), .e (.var 2)], .ag [.e (.var 3), .e (.var 4), .e (.var 5)]], pre := [⟨[.e (.var 6)], 97⟩], tin := [.int .i64, .int .i64, .int .i64, .int .i64, .int .i64, .int .i64, .bool], gin := [], res := .c (.ag [.e (.var 0), .e (.var 1), .e (.var 2)]), post := [⟨[.e (.var 3)], 97⟩], tout := [.int .i64, .int .i64, .int .i64, .bool], gout := [] }
def cl_l6tPair : List (Nat × Sig) := [(111, sg_sFracMirror), (112, sg_sFracTimes)]
theorem run_l6tPair : run ⟨Tryd.prog, glb, cl_l6tPair⟩ [] Tryd.f97 sg_l6tPair (Tryd.f97.body.getD .skip) = tr_l6tPair := by kernel_rfl
theorem om_l6tPair : ΩOK ⟨Tryd.prog, glb, cl_l6tPair⟩ (specsOf Fs_l6tPair) := (ΩOK_cons cong_sFracMirror Tryd.call111 (ΩOK_cons cong_sFracTimes Tryd.call112 ΩOK_nil))
theorem con_l6tPair : ConOK Tryd.prog glb 97 sg_l6tPair F_l6tPair.spec := conOK_tree om_l6tPair mixed Tryd.func97 (by kernel_rfl) run_l6tPair
theorem cong_l6tPair : ConOK Tryd.prog glb 97 sg_l6tPair G_l6tPair.spec := con_l6tPair.as as_l6tPair

def sg_l6tPart20 : Sig := { args := [.s (.p (.own 0) 0), .ag [.e (.var 0), .e (.var 1), .e (.var 2)], .s (.e (.int .i64 (2))), .s (.e (.bool false))], pre := [⟨[.e (.var 3)], 97⟩], tin := [.int .i64, .int .i64, .int .i64, .bool], gin := [], res := .c (.ag [.e (.var 0), .e (.var 1), .e (.var 2)]), post := [⟨[.e (.var 3)], 97⟩], tout := [.int .i64, .int .i64, .int .i64, .bool], gout := [] }
def cl_l6tPart20 : List (Nat × Sig) := [(114, sg_sFracMake)]
theorem run_l6tPart20 : run ⟨Tryd.prog, glb, cl_l6tPart20⟩ [] Tryd.f99 sg_l6tPart20 (Tryd.f99.body.getD .skip) = tr_l6tPart20 := by kernel_rfl
theorem om_l6tPart20 : ΩOK ⟨Tryd.prog, glb, cl_l6tPart20⟩ (specsOf Fs_l6tPart20) := (ΩOK_cons cong_sFracMake Tryd.call114 ΩOK_nil)
theorem con_l6tPart20 : ConOK Tryd.prog glb 99 sg_l6tPart20 F_l6tPart20.spec := conOK_tree om_l6tPart20 mixed Tryd.func99 (by kernel_rfl) run_l6tPart20
theorem cong_l6tPart20 : ConOK Tryd.prog glb 99 sg_l6tPart20 G_l6tPart20.spec := con_l6tPart20.as as_l6tPart20

def sg_l6tPart10 : Sig := { args := [.s (.p (.own 0) 0), .ag [.e (.var 0), .e (.var 1), .e (.var 2)], .s (.e (.int .i64 (1))), .s (.e (.bool false))], pre := [⟨[.e (.var 3)], 97⟩], tin := [.int .i64, .int .i64, .int .i64, .bool], gin := [], res := .c (.ag [.e (.var 0), .e (.var 1), .e (.var 2)]), post := [⟨[.e (.var 3)], 97⟩], tout := [.int .i64, .int .i64, .int .i64, .bool], gout := [] }
def cl_l6tPart10 : List (Nat × Sig) := [(114, sg_sFracMake)]
theorem run_l6tPart10 : run ⟨Tryd.prog, glb, cl_l6tPart10⟩ [] Tryd.f99 sg_l6tPart10 (Tryd.f99.body.getD .skip) = tr_l6tPart10 := by kernel_rfl
theorem om_l6tPart10 : ΩOK ⟨Tryd.prog, glb, cl_l6tPart10⟩ (specsOf Fs_l6tPart10) := (ΩOK_cons cong_sFracMake Tryd.call114 ΩOK_nil)
theorem con_l6tPart10 : ConOK Tryd.prog glb 99 sg_l6tPart10 F_l6tPart10.spec := conOK_tree om_l6tPart10 mixed Tryd.func99 (by kernel_rfl) run_l6tPart10
theorem cong_l6tPart10 : ConOK Tryd.prog glb 99 sg_l6tPart10 G_l6tPart10.spec := con_l6tPart10.as as_l6tPart10

def sg_l6tPart11 : Sig := { args := [.s (.p (.own 0) 0), .ag [.e (.var 0), .e (.var 1), .e (.var 2)], .s (.e (.int .i64 (1))), .s (.e (.bool true))], pre := [⟨[.e (.var 3)], 97⟩], tin := [.int .i64, .int .i64, .int .i64, .bool], gin := [], res := .c (.ag [.e (.var 0), .e (.var 1), .e (.var 2)]), post := [⟨[.e (.var 3)], 97⟩], tout := [.int .i64, .int .i64, .int .i64, .bool], gout := [] }
def cl_l6tPart11 : List (Nat × Sig) := [(114, sg_sFracMake)]
theorem run_l6tPart11 : run ⟨Tryd.prog, glb, cl_l6tPart11⟩ [] Tryd.f99 sg_l6tPart11 (Tryd.f99.body.getD .skip) = tr_l6tPart11 := by kernel_rfl
theorem om_l6tPart11 : ΩOK ⟨Tryd.prog, glb, cl_l6tPart11⟩ (specsOf Fs_l6tPart11) := (ΩOK_cons cong_sFracMake Tryd.call114 ΩOK_nil)
theorem con_l6tPart11 : ConOK Tryd.prog glb 99 sg_l6tPart11 F_l6tPart11.spec := conOK_tree om_l6tPart11 mixed Tryd.func99 (by kernel_rfl) run_l6tPart11
theorem cong_l6tPart11 : ConOK Tryd.prog glb 99 sg_l6tPart11 G_l6tPart11.spec := con_l6tPart11.as as_l6tPart11

def sg_l6tPowersA : Sig := { args := [.s (.p (.own 0) 0), .ag [.e (.var 0), .e (.var 1), .e (.var 2), .e (.var 3), .e (.var 4), .e (.var 5), .e (.var 6), .e (.var 7), .e (.var 8), .e (.var 9), .e (.var 10), .e (.var 11)], .s (.e (.int .i64 (1))), .s (.e (.int .i64 (1))), .s (.e (.int .i64 (1)))], pre := [⟨[.e (.var 12)], 97⟩], tin := [.int .i64, .int .i64, .int .i64, .int .i64, .int .i64, .int .i64, .int .i64, .int .i64, .int .i64, .int .i64, .int .i64, .int .i64, .bool], gin := [], res := .c (.ag [.e (.var 0), .e (.var 1), .e (.var 2)]), post := [⟨[.e (.var 3)], 97⟩], tout := [.int .i64, .int .i64, .int .i64, .bool], gout := [] }
def cl_l6tPowersA : List (Nat × Sig) := [(97, sg_l6tPair), (98, sg_l6tAddP), (98, sg_l6tAddM), (99, sg_l6tPart20)]
theorem run_l6tPowersA : run ⟨Tryd.prog, glb, cl_l6tPowersA⟩ [] Tryd.f65 sg_l6tPowersA (Tryd.f65.body.getD .skip) = tr_l6tPowersA := by kernel_rfl
theorem om_l6tPowersA : ΩOK ⟨Tryd.prog, glb, cl_l6tPowersA⟩ (specsOf Fs_l6tPowersA) := (ΩOK_cons cong_l6tPair Tryd.call97 (ΩOK_cons cong_l6tAddP Tryd.call98 (ΩOK_cons cong_l6tAddM Tryd.call98 (ΩOK_cons cong_l6tPart20 Tryd.call99 ΩOK_nil))))
theorem con_l6tPowersA : ConOK Tryd.prog glb 65 sg_l6tPowersA F_l6tPowersA.spec := conOK_tree om_l6tPowersA mixed Tryd.func65 (by kernel_rfl) run_l6tPowersA

def sg_l6tPowersB : Sig := { args := [.s (.p (.own 0) 0), .ag [.e (.var 0), .e (.var 1), .e (.var 2), .e (.var 3), .e (.var 4), .e (.var 5), .e (.var 6), .e (.var 7), .e (.var 8), .e (.var 9), .e (.var 10), .e (.var 11)], .s (.e (.int .i64 (-1))), .s (.e (.int .i64 (1))), .s (.e (.int .i64 (-1)))], pre := [⟨[.e (.var 12)], 97⟩], tin := [.int .i64, .int .i64, .int .i64, .int .i64, .int .i64, .int .i64, .int .i64, .int .i64, .int .i64, .int .i64, .int .i64, .int .i64, .bool], gin := [], res := .c (.ag [.e (.var 0), .e (.var 1), .e (.var 2)]), post := [⟨[.e (.var 3)], 97⟩], tout := [.int .i64, .int .i64, .int .i64, .bool], gout := [] }
def cl_l6tPowersB : List (Nat × Sig) := [(97, sg_l6tPair), (98, sg_l6tAddP), (98, sg_l6tAddM), (99, sg_l6tPart20)]
theorem run_l6tPowersB : run ⟨Tryd.prog, glb, cl_l6tPowersB⟩ [] Tryd.f65 sg_l6tPowersB (Tryd.f65.body.getD .skip) = tr_l6tPowersB := by kernel_rfl
theorem om_l6tPowersB : ΩOK ⟨Tryd.prog, glb, cl_l6tPowersB⟩ (specsOf Fs_l6tPowersB) := (ΩOK_cons cong_l6tPair Tryd.call97 (ΩOK_cons cong_l6tAddP Tryd.call98 (ΩOK_cons cong_l6tAddM Tryd.call98 (ΩOK_cons cong_l6tPart20 Tryd.call99 ΩOK_nil))))
theorem con_l6tPowersB : ConOK Tryd.prog glb 65 sg_l6tPowersB F_l6tPowersB.spec := conOK_tree om_l6tPowersB mixed Tryd.func65 (by kernel_rfl) run_l6tPowersB

def sg_l6tPowersC : Sig := { args := [.s (.p (.own 0) 0), .ag [.e (.var 0), .e (.var 1), .e (.var 2), .e (.var 3), .e (.var 4), .e (.var 5), .e (.var 6), .e (.var 7), .e (.var 8), .e (.var 9), .e (.var 10), .e (.var 11)], .s (.e (.int .i64 (1))), .s (.e (.int .i64 (-1))), .s (.e (.int .i64 (-1)))], pre := [⟨[.e (.var 12)], 97⟩], tin := [.int .i64, .int .i64, .int .i64, .int .i64, .int .i64, .int .i64, .int .i64, .int .i64, .int .i64, .int .i64, .int .i64, .int .i64, .bool], gin := [], res := .c (.ag [.e (.var 0), .e (.var 1), .e (.var 2)]), post := [⟨[.e (.var 3)], 97⟩], tout := [.int .i64, .int .i64, .int .i64, .bool], gout := [] }
def cl_l6tPowersC : List (Nat × Sig) := [(97, sg_l6tPair), (98, sg_l6tAddP), (98, sg_l6tAddM), (99, sg_l6tPart20)]
theorem run_l6tPowersC : run ⟨Tryd.prog, glb, cl_l6tPowersC⟩ [] Tryd.f65 sg_l6tPowersC (Tryd.f65.body.getD .skip) = tr_l6tPowersC := by kernel_rfl
theorem om_l6tPowersC : ΩOK ⟨Tryd.prog, glb, cl_l6tPowersC⟩ (specsOf Fs_l6tPowersC) := (ΩOK_cons cong_l6tPair Tryd.call97 (ΩOK_cons cong_l6tAddP Tryd.call98 (ΩOK_cons cong_l6tAddM Tryd.call98 (ΩOK_cons cong_l6tPart20 Tryd.call99 ΩOK_nil))))
theorem con_l6tPowersC : ConOK Tryd.prog glb 65 sg_l6tPowersC F_l6tPowersC.spec := conOK_tree om_l6tPowersC mixed Tryd.func65 (by kernel_rfl) run_l6tPowersC

def sg_l6tPowersD : Sig := { args := [.s (.p (.own 0) 0), .ag [.e (.var 0), .e (.var 1), .e (.var 2), .e (.var 3), .e (.var 4), .e (.var 5), .e (.var 6), .e (.var 7), .e (.var 8), .e (.var 9), .e (.var 10), .e (.var 11)], .s (.e (.int .i64 (-1))), .s (.e (.int .i64 (-1))), .s (.e (.int .i64 (1)))], pre := [⟨[.e (.var 12)], 97⟩], tin := [.int .i64, .int .i64, .int .i64, .int .i64, .int .i64, .int .i64, .int .i64, .int .i64, .int .i64, .int .i64, .int .i64, .int .i64, .bool], gin := [], res := .c (.ag [.e (.var 0), .e (.var 1), .e (.var 2)]), post := [⟨[.e (.var 3)], 97⟩], tout := [.int .i64, .int .i64, .int .i64, .bool], gout := [] }
def cl_l6tPowersD : List (Nat × Sig) := [(97, sg_l6tPair), (98, sg_l6tAddP), (98, sg_l6tAddM), (99, sg_l6tPart20)]
theorem run_l6tPowersD : run ⟨Tryd.prog, glb, cl_l6tPowersD⟩ [] Tryd.f65 sg_l6tPowersD (Tryd.f65.body.getD .skip) = tr_l6tPowersD := by kernel_rfl
theorem om_l6tPowersD : ΩOK ⟨Tryd.prog, glb, cl_l6tPowersD⟩ (specsOf Fs_l6tPowersD) := (ΩOK_cons cong_l6tPair Tryd.call97 (ΩOK_cons cong_l6tAddP Tryd.call98 (ΩOK_cons cong_l6tAddM Tryd.call98 (ΩOK_cons cong_l6tPart20 Tryd.call99 ΩOK_nil))))
theorem con_l6tPowersD : ConOK Tryd.prog glb 65 sg_l6tPowersD F_l6tPowersD.spec := conOK_tree om_l6tPowersD mixed Tryd.func65 (by kernel_rfl) run_l6tPowersD

def sg_l6tTwo2 : Sig := { args := [.s (.p (.own 0) 0), .ag [.e (.var 0), .e (.var 1), .e (.var 2), .e (.var 3), .e (.var 4), .e (.var 5), .e (.var 6), .e (.var 7), .e (.var 8), .e (.var 9), .e (.var 10), .e (.var 11)], .s (.e (.int .i64 (0))), .s (.e (.int .i64 (1))), .s (.e (.int .i64 (1))), .s (.e (.int .i64 (2))), .s (.e (.int .i64 (3))), .s (.e (.bool false))], pre := [⟨[.e (.var 12)], 97⟩], tin := [.int .i64, .int .i64, .int .i64, .int .i64, .int .i64, .int .i64, .int .i64, .int .i64, .int .i64, .int .i64, .int .i64, .int .i64, .bool], gin := [], res := .c (.ag [.e (.var 0), .e (.var 1), .e (.var 2)]), post := [⟨[.e (.var 3)], 97⟩], tout := [.int .i64, .int .i64, .int .i64, .bool], gout := [] }
def cl_l6tTwo2 : List (Nat × Sig) := [(97, sg_l6tPair), (98, sg_l6tAddP), (99, sg_l6tPart10)]
theorem run_l6tTwo2 : run ⟨Tryd.prog, glb, cl_l6tTwo2⟩ [] Tryd.f66 sg_l6tTwo2 (Tryd.f66.body.getD .skip) = tr_l6tTwo2 := by kernel_rfl
theorem om_l6tTwo2 : ΩOK ⟨Tryd.prog, glb, cl_l6tTwo2⟩ (specsOf Fs_l6tTwo2) := (ΩOK_cons cong_l6tPair Tryd.call97 (ΩOK_cons cong_l6tAddP Tryd.call98 (ΩOK_cons cong_l6tPart10 Tryd.call99 ΩOK_nil)))
theorem con_l6tTwo2 : ConOK Tryd.prog glb 66 sg_l6tTwo2 F_l6tTwo2.spec := conOK_tree om_l6tTwo2 mixed Tryd.func66 (by kernel_rfl) run_l6tTwo2

def sg_l6tTwo3 : Sig := { args := [.s (.p (.own 0) 0), .ag [.e (.var 0), .e (.var 1), .e (.var 2), .e (.var 3), .e (.var 4), .e (.var 5), .e (.var 6), .e (.var 7), .e (.var 8), .e (.var 9), .e (.var 10), .e (.var 11)], .s (.e (.int .i64 (1))), .s (.e (.int .i64 (0))), .s (.e (.int .i64 (1))), .s (.e (.int .i64 (3))), .s (.e (.int .i64 (2))), .s (.e (.bool true))], pre := [⟨[.e (.var 12)], 97⟩], tin := [.int .i64, .int .i64, .int .i64, .int .i64, .int .i64, .int .i64, .int .i64, .int .i64, .int .i64, .int .i64, .int .i64, .int .i64, .bool], gin := [], res := .c (.ag [.e (.var 0), .e (.var 1), .e (.var 2)]), post := [⟨[.e (.var 3)], 97⟩], tout := [.int .i64, .int .i64, .int .i64, .bool], gout := [] }
def cl_l6tTwo3 : List (Nat × Sig) := [(97, sg_l6tPair), (98, sg_l6tAddP), (99, sg_l6tPart11)]
theorem run_l6tTwo3 : run ⟨Tryd.prog, glb, cl_l6tTwo3⟩ [] Tryd.f66 sg_l6tTwo3 (Tryd.f66.body.getD .skip) = tr_l6tTwo3 := by kernel_rfl
theorem om_l6tTwo3 : ΩOK ⟨Tryd.prog, glb, cl_l6tTwo3⟩ (specsOf Fs_l6tTwo3) := (ΩOK_cons cong_l6tPair Tryd.call97 (ΩOK_cons cong_l6tAddP Tryd.call98 (ΩOK_cons cong_l6tPart11 Tryd.call99 ΩOK_nil)))
theorem con_l6tTwo3 : ConOK Tryd.prog glb 66 sg_l6tTwo3 F_l6tTwo3.spec := conOK_tree om_l6tTwo3 mixed Tryd.func66 (by kernel_rfl) run_l6tTwo3

def sg_l6tTwo6 : Sig := { args := [.s (.p (.own 0) 0), .ag [.e (.var 0), .e (.var 1), .e (.var 2), .e (.var 3), .e (.var 4), .e (.var 5), .e (.var 6), .e (.var 7), .e (.var 8), .e (.var 9), .e (.var 10), .e (.var 11)], .s (.e (.int .i64 (0))), .s (.e (.int .i64 (1))), .s (.e (.int .i64 (-1))), .s (.e (.int .i64 (2))), .s (.e (.int .i64 (3))), .s (.e (.bool false))], pre := [⟨[.e (.var 12)], 97⟩], tin := [.int .i64, .int .i64, .int .i64, .int .i64, .int .i64, .int .i64, .int .i64, .int .i64, .int .i64, .int .i64, .int .i64, .int .i64, .bool], gin := [], res := .c (.ag [.e (.var 0), .e (.var 1), .e (.var 2)]), post := [⟨[.e (.var 3)], 97⟩], tout := [.int .i64, .int .i64, .int .i64, .bool], gout := [] }
def cl_l6tTwo6 : List (Nat × Sig) := [(97, sg_l6tPair), (98, sg_l6tAddM), (99, sg_l6tPart10)]
theorem run_l6tTwo6 : run ⟨Tryd.prog, glb, cl_l6tTwo6⟩ [] Tryd.f66 sg_l6tTwo6 (Tryd.f66.body.getD .skip) = tr_l6tTwo6 := by kernel_rfl
theorem om_l6tTwo6 : ΩOK ⟨Tryd.prog, glb, cl_l6tTwo6⟩ (specsOf Fs_l6tTwo6) := (ΩOK_cons cong_l6tPair Tryd.call97 (ΩOK_cons cong_l6tAddM Tryd.call98 (ΩOK_cons cong_l6tPart10 Tryd.call99 ΩOK_nil)))
theorem con_l6tTwo6 : ConOK Tryd.prog glb 66 sg_l6tTwo6 F_l6tTwo6.spec := conOK_tree om_l6tTwo6 mixed Tryd.func66 (by kernel_rfl) run_l6tTwo6

def sg_l6tTwo7 : Sig := { args := [.s (.p (.own 0) 0), .ag [.e (.var 0), .e (.var 1), .e (.var 2), .e (.var 3), .e (.var 4), .e (.var 5), .e (.var 6), .e (.var 7), .e (.var 8), .e (.var 9), .e (.var 10), .e (.var 11)], .s (.e (.int .i64 (1))), .s (.e (.int .i64 (0))), .s (.e (.int .i64 (-1))), .s (.e (.int .i64 (3))), .s (.e (.int .i64 (2))), .s (.e (.bool true))], pre := [⟨[.e (.var 12)], 97⟩], tin := [.int .i64, .int .i64, .int .i64, .int .i64, .int .i64, .int .i64, .int .i64, .int .i64, .int .i64, .int .i64, .int .i64, .int .i64, .bool], gin := [], res := .c (.ag [.e (.var 0), .e (.var 1), .e (.var 2)]), post := [⟨[.e (.var 3)], 97⟩], tout := [.int .i64, .int .i64, .int .i64, .bool], gout := [] }
def cl_l6tTwo7 : List (Nat × Sig) := [(97, sg_l6tPair), (98, sg_l6tAddM), (99, sg_l6tPart11)]
theorem run_l6tTwo7 : run ⟨Tryd.prog, glb, cl_l6tTwo7⟩ [] Tryd.f66 sg_l6tTwo7 (Tryd.f66.body.getD .skip) = tr_l6tTwo7 := by kernel_rfl
theorem om_l6tTwo7 : ΩOK ⟨Tryd.prog, glb, cl_l6tTwo7⟩ (specsOf Fs_l6tTwo7) := (ΩOK_cons cong_l6tPair Tryd.call97 (ΩOK_cons cong_l6tAddM Tryd.call98 (ΩOK_cons cong_l6tPart11 Tryd.call99 ΩOK_nil)))
theorem con_l6tTwo7 : ConOK Tryd.prog glb 66 sg_l6tTwo7 F_l6tTwo7.spec := conOK_tree om_l6tTwo7 mixed Tryd.func66 (by kernel_rfl) run_l6tTwo7

def sg_l6tTwo8 : Sig := { args := [.s (.p (.own 0) 0), .ag [.e (.var 0), .e (.var 1), .e (.var 2), .e (.var 3), .e (.var 4), .e (.var 5), .e (.var 6), .e (.var 7), .e (.var 8), .e (.var 9), .e (.var 10), .e (.var 11)], .s (.e (.int .i64 (0))), .s (.e (.int .i64 (2))), .s (.e (.int .i64 (1))), .s (.e (.int .i64 (1))), .s (.e (.int .i64 (3))), .s (.e (.bool false))], pre := [⟨[.e (.var 12)], 97⟩], tin := [.int .i64, .int .i64, .int .i64, .int .i64, .int .i64, .int .i64, .int .i64, .int .i64, .int .i64, .int .i64, .int .i64, .int .i64, .bool], gin := [], res := .c (.ag [.e (.var 0), .e (.var 1), .e (.var 2)]), post := [⟨[.e (.var 3)], 97⟩], tout := [.int .i64, .int .i64, .int .i64, .bool], gout := [] }
def cl_l6tTwo8 : List (Nat × Sig) := [(97, sg_l6tPair), (98, sg_l6tAddP), (99, sg_l6tPart10)]
theorem run_l6tTwo8 : run ⟨Tryd.prog, glb, cl_l6tTwo8⟩ [] Tryd.f66 sg_l6tTwo8 (Tryd.f66.body.getD .skip) = tr_l6tTwo8 := by kernel_rfl
theorem om_l6tTwo8 : ΩOK ⟨Tryd.prog, glb, cl_l6tTwo8⟩ (specsOf Fs_l6tTwo8) := (ΩOK_cons cong_l6tPair Tryd.call97 (ΩOK_cons cong_l6tAddP Tryd.call98 (ΩOK_cons cong_l6tPart10 Tryd.call99 ΩOK_nil)))
theorem con_l6tTwo8 : ConOK Tryd.prog glb 66 sg_l6tTwo8 F_l6tTwo8.spec := conOK_tree om_l6tTwo8 mixed Tryd.func66 (by kernel_rfl) run_l6tTwo8

def sg_l6tTwo9 : Sig := { args := [.s (.p (.own 0) 0), .ag [.e (.var 0), .e (.var 1), .e (.var 2), .e (.var 3), .e (.var 4), .e (.var 5), .e (.var 6), .e (.var 7), .e (.var 8), .e (.var 9), .e (.var 10), .e (.var 11)], .s (.e (.int .i64 (0))), .s (.e (.int .i64 (2))), .s (.e (.int .i64 (-1))), .s (.e (.int .i64 (1))), .s (.e (.int .i64 (3))), .s (.e (.bool false))], pre := [⟨[.e (.var 12)], 97⟩], tin := [.int .i64, .int .i64, .int .i64, .int .i64, .int .i64, .int .i64, .int .i64, .int .i64, .int .i64, .int .i64, .int .i64, .int .i64, .bool], gin := [], res := .c (.ag [.e (.var 0), .e (.var 1), .e (.var 2)]), post := [⟨[.e (.var 3)], 97⟩], tout := [.int .i64, .int .i64, .int .i64, .bool], gout := [] }
def cl_l6tTwo9 : List (Nat × Sig) := [(97, sg_l6tPair), (98, sg_l6tAddM), (99, sg_l6tPart10)]
theorem run_l6tTwo9 : run ⟨Tryd.prog, glb, cl_l6tTwo9⟩ [] Tryd.f66 sg_l6tTwo9 (Tryd.f66.body.getD .skip) = tr_l6tTwo9 := by kernel_rfl
theorem om_l6tTwo9 : ΩOK ⟨Tryd.prog, glb, cl_l6tTwo9⟩ (specsOf Fs_l6tTwo9) := (ΩOK_cons cong_l6tPair Tryd.call97 (ΩOK_cons cong_l6tAddM Tryd.call98 (ΩOK_cons cong_l6tPart10 Tryd.call99 ΩOK_nil)))
theorem con_l6tTwo9 : ConOK Tryd.prog glb 66 sg_l6tTwo9 F_l6tTwo9.spec := conOK_tree om_l6tTwo9 mixed Tryd.func66 (by kernel_rfl) run_l6tTwo9

def sg_l6tTwo10 : Sig := { args := [.s (.p (.own 0) 0), .ag [.e (.var 0), .e (.var 1), .e (.var 2), .e (.var 3), .e (.var 4), .e (.var 5), .e (.var 6), .e (.var 7), .e (.var 8), .e (.var 9), .e (.var 10), .e (.var 11)], .s (.e (.int .i64 (0))), .s (.e (.int .i64 (3))), .s (.e (.int .i64 (1))), .s (.e (.int .i64 (1))), .s (.e (.int .i64 (2))), .s (.e (.bool false))], pre := [⟨[.e (.var 12)], 97⟩], tin := [.int .i64, .int .i64, .int .i64, .int .i64, .int .i64, .int .i64, .int .i64, .int .i64, .int .i64, .int .i64, .int .i64, .int .i64, .bool], gin := [], res := .c (.ag [.e (.var 0), .e (.var 1), .e (.var 2)]), post := [⟨[.e (.var 3)], 97⟩], tout := [.int .i64, .int .i64, .int .i64, .bool], gout := [] }
def cl_l6tTwo10 : List (Nat × Sig) := [(97, sg_l6tPair), (98, sg_l6tAddP), (99, sg_l6tPart10)]
theorem run_l6tTwo10 : run ⟨Tryd.prog, glb, cl_l6tTwo10⟩ [] Tryd.f66 sg_l6tTwo10 (Tryd.f66.body.getD .skip) = tr_l6tTwo10 := by kernel_rfl
theorem om_l6tTwo10 : ΩOK ⟨Tryd.prog, glb, cl_l6tTwo10⟩ (specsOf Fs_l6tTwo10) := (ΩOK_cons cong_l6tPair Tryd.call97 (ΩOK_cons cong_l6tAddP Tryd.call98 (ΩOK_cons cong_l6tPart10 Tryd.call99 ΩOK_nil)))
theorem con_l6tTwo10 : ConOK Tryd.prog glb 66 sg_l6tTwo10 F_l6tTwo10.spec := conOK_tree om_l6tTwo10 mixed Tryd.func66 (by kernel_rfl) run_l6tTwo10

def sg_l6tTwo11 : Sig := { args := [.s (.p (.own 0) 0), .ag [.e (.var 0), .e (.var 1), .e (.var 2), .e (.var 3), .e (.var 4), .e (.var 5), .e (.var 6), .e (.var 7), .e (.var 8), .e (.var 9), .e (.var 10), .e (.var 11)], .s (.e (.int .i64 (1))), .s (.e (.int .i64 (2))), .s (.e (.int .i64 (-1))), .s (.e (.int .i64 (0))), .s (.e (.int .i64 (3))), .s (.e (.bool true))], pre := [⟨[.e (.var 12)], 97⟩], tin := [.int .i64, .int .i64, .int .i64, .int .i64, .int .i64, .int .i64, .int .i64, .int .i64, .int .i64, .int .i64, .int .i64, .int .i64, .bool], gin := [], res := .c (.ag [.e (.var 0), .e (.var 1), .e (.var 2)]), post := [⟨[.e (.var 3)], 97⟩], tout := [.int .i64, .int .i64, .int .i64, .bool], gout := [] }
def cl_l6tTwo11 : List (Nat × Sig) := [(97, sg_l6tPair), (98, sg_l6tAddM), (99, sg_l6tPart11)]
theorem run_l6tTwo11 : run ⟨Tryd.prog, glb, cl_l6tTwo11⟩ [] Tryd.f66 sg_l6tTwo11 (Tryd.f66.body.getD .skip) = tr_l6tTwo11 := by kernel_rfl
theorem om_l6tTwo11 : ΩOK ⟨Tryd.prog, glb, cl_l6tTwo11⟩ (specsOf Fs_l6tTwo11) := (ΩOK_cons cong_l6tPair Tryd.call97 (ΩOK_cons cong_l6tAddM Tryd.call98 (ΩOK_cons cong_l6tPart11 Tryd.call99 ΩOK_nil)))
theorem con_l6tTwo11 : ConOK Tryd.prog glb 66 sg_l6tTwo11 F_l6tTwo11.spec := conOK_tree om_l6tTwo11 mixed Tryd.func66 (by kernel_rfl) run_l6tTwo11

def sg_l6tTwo12 : Sig := { args := [.s (.p (.own 0) 0), .ag [.e (.var 0), .e (.var 1), .e (.var 2), .e (.var 3), .e (.var 4), .e (.var 5), .e (.var 6), .e (.var 7), .e (.var 8), .e (.var 9), .e (.var 10), .e (.var 11)], .s (.e (.int .i64 (0))), .s (.e (.int .i64 (2))), .s (.e (.int .i64 (1))), .s (.e (.int .i64 (1))), .s (.e (.int .i64 (3))), .s (.e (.bool true))], pre := [⟨[.e (.var 12)], 97⟩], tin := [.int .i64, .int .i64, .int .i64, .int .i64, .int .i64, .int .i64, .int .i64, .int .i64, .int .i64, .int .i64, .int .i64, .int .i64, .bool], gin := [], res := .c (.ag [.e (.var 0), .e (.var 1), .e (.var 2)]), post := [⟨[.e (.var 3)], 97⟩], tout := [.int .i64, .int .i64, .int .i64, .bool], gout := [] }
def cl_l6tTwo12 : List (Nat × Sig) := [(97, sg_l6tPair), (98, sg_l6tAddP), (99, sg_l6tPart11)]
theorem run_l6tTwo12 : run ⟨Tryd.prog, glb, cl_l6tTwo12⟩ [] Tryd.f66 sg_l6tTwo12 (Tryd.f66.body.getD .skip) = tr_l6tTwo12 := by kernel_rfl
theorem om_l6tTwo12 : ΩOK ⟨Tryd.prog, glb, cl_l6tTwo12⟩ (specsOf Fs_l6tTwo12) := (ΩOK_cons cong_l6tPair Tryd.call97 (ΩOK_cons cong_l6tAddP Tryd.call98 (ΩOK_cons cong_l6tPart11 Tryd.call99 ΩOK_nil)))
theorem con_l6tTwo12 : ConOK Tryd.prog glb 66 sg_l6tTwo12 F_l6tTwo12.spec := conOK_tree om_l6tTwo12 mixed Tryd.func66 (by kernel_rfl) run_l6tTwo12

def sg_l6tTwo13 : Sig := { args := [.s (.p (.own 0) 0), .ag [.e (.var 0), .e (.var 1), .e (.var 2), .e (.var 3), .e (.var 4), .e (.var 5), .e (.var 6), .e (.var 7), .e (.var 8), .e (.var 9), .e (.var 10), .e (.var 11)], .s (.e (.int .i64 (0))), .s (.e (.int .i64 (2))), .s (.e (.int .i64 (-1))), .s (.e (.int .i64 (1))), .s (.e (.int .i64 (3))), .s (.e (.bool true))], pre := [⟨[.e (.var 12)], 97⟩], tin := [.int .i64, .int .i64, .int .i64, .int .i64, .int .i64, .int .i64, .int .i64, .int .i64, .int .i64, .int .i64, .int .i64, .int .i64, .bool], gin := [], res := .c (.ag [.e (.var 0), .e (.var 1), .e (.var 2)]), post := [⟨[.e (.var 3)], 97⟩], tout := [.int .i64, .int .i64, .int .i64, .bool], gout := [] }
def cl_l6tTwo13 : List (Nat × Sig) := [(97, sg_l6tPair), (98, sg_l6tAddM), (99, sg_l6tPart11)]
theorem run_l6tTwo13 : run ⟨Tryd.prog, glb, cl_l6tTwo13⟩ [] Tryd.f66 sg_l6tTwo13 (Tryd.f66.body.getD .skip) = tr_l6tTwo13 := by kernel_rfl
theorem om_l6tTwo13 : ΩOK ⟨Tryd.prog, glb, cl_l6tTwo13⟩ (specsOf Fs_l6tTwo13) := (ΩOK_cons cong_l6tPair Tryd.call97 (ΩOK_cons cong_l6tAddM Tryd.call98 (ΩOK_cons cong_l6tPart11 Tryd.call99 ΩOK_nil)))
theorem con_l6tTwo13 : ConOK Tryd.prog glb 66 sg_l6tTwo13 F_l6tTwo13.spec := conOK_tree om_l6tTwo13 mixed Tryd.func66 (by kernel_rfl) run_l6tTwo13

def sg_l6tTwo14 : Sig := { args := [.s (.p (.own 0) 0), .ag [.e (.var 0), .e (.var 1), .e (.var 2), .e (.var 3), .e (.var 4), .e (.var 5), .e (.var 6), .e (.var 7), .e (.var 8), .e (.var 9), .e (.var 10), .e (.var 11)], .s (.e (.int .i64 (0))), .s (.e (.int .i64 (3))), .s (.e (.int .i64 (1))), .s (.e (.int .i64 (1))), .s (.e (.int .i64 (2))), .s (.e (.bool true))], pre := [⟨[.e (.var 12)], 97⟩], tin := [.int .i64, .int .i64, .int .i64, .int .i64, .int .i64, .int .i64, .int .i64, .int .i64, .int .i64, .int .i64, .int .i64, .int .i64, .bool], gin := [], res := .c (.ag [.e (.var 0), .e (.var 1), .e (.var 2)]), post := [⟨[.e (.var 3)], 97⟩], tout := [.int .i64, .int .i64, .int .i64, .bool], gout := [] }
def cl_l6tTwo14 : List (Nat × Sig) := [(97, sg_l6tPair), (98, sg_l6tAddP), (99, sg_l6tPart11)]
theorem run_l6tTwo14 : run ⟨Tryd.prog, glb, cl_l6tTwo14⟩ [] Tryd.f66 sg_l6tTwo14 (Tryd.f66.body.getD .skip) = tr_l6tTwo14 := by kernel_rfl
theorem om_l6tTwo14 : ΩOK ⟨Tryd.prog, glb, cl_l6tTwo14⟩ (specsOf Fs_l6tTwo14) := (ΩOK_cons cong_l6tPair Tryd.call97 (ΩOK_cons cong_l6tAddP Tryd.call98 (ΩOK_cons cong_l6tPart11 Tryd.call99 ΩOK_nil)))
theorem con_l6tTwo14 : ConOK Tryd.prog glb 66 sg_l6tTwo14 F_l6tTwo14.spec := conOK_tree om_l6tTwo14 mixed Tryd.func66 (by kernel_rfl) run_l6tTwo14

def sg_l6tTwo15 : Sig := { args := [.s (.p (.own 0) 0), .ag [.e (.var 0), .e (.var 1), .e (.var 2), .e (.var 3), .e (.var 4), .e (.var 5), .e (.var 6), .e (.var 7), .e (.var 8), .e (.var 9), .e (.var 10), .e (.var 11)], .s (.e (.int .i64 (0))), .s (.e (.int .i64 (3))), .s (.e (.int .i64 (-1))), .s (.e (.int .i64 (1))), .s (.e (.int .i64 (2))), .s (.e (.bool false))], pre := [⟨[.e (.var 12)], 97⟩], tin := [.int .i64, .int .i64, .int .i64, .int .i64, .int .i64, .int .i64, .int .i64, .int .i64, .int .i64, .int .i64, .int .i64, .int .i64, .bool], gin := [], res := .c (.ag [.e (.var 0), .e (.var 1), .e (.var 2)]), post := [⟨[.e (.var 3)], 97⟩], tout := [.int .i64, .int .i64, .int .i64, .bool], gout := [] }
def cl_l6tTwo15 : List (Nat × Sig) := [(97, sg_l6tPair), (98, sg_l6tAddM), (99, sg_l6tPart10)]
theorem run_l6tTwo15 : run ⟨Tryd.prog, glb, cl_l6tTwo15⟩ [] Tryd.f66 sg_l6tTwo15 (Tryd.f66.body.getD .skip) = tr_l6tTwo15 := by kernel_rfl
theorem om_l6tTwo15 : ΩOK ⟨Tryd.prog, glb, cl_l6tTwo15⟩ (specsOf Fs_l6tTwo15) := (ΩOK_cons cong_l6tPair Tryd.call97 (ΩOK_cons cong_l6tAddM Tryd.call98 (ΩOK_cons cong_l6tPart10 Tryd.call99 ΩOK_nil)))
theorem con_l6tTwo15 : ConOK Tryd.prog glb 66 sg_l6tTwo15 F_l6tTwo15.spec := conOK_tree om_l6tTwo15 mixed Tryd.func66 (by kernel_rfl) run_l6tTwo15

def sg_iTableOf : Sig := { args := [.ag [.e (.var 0), .e (.var 1), .e (.var 2), .e (.var 3), .e (.var 4), .e (.var 5), .e (.var 6), .e (.var 7), .e (.var 8), .e (.var 9), .e (.var 10), .e (.var 11)]], pre := [], tin := [.int .i64, .int .i64, .int .i64, .int .i64, .int .i64, .int .i64, .int .i64, .int .i64, .int .i64, .int .i64, .int .i64, .int .i64], gin := [], res := .tu [.ag [.e (.var 0), .e (.var 1), .e (.var 2), .e (.var 3), .e (.var 4), .e (.var 5), .e (.var 6), .e (.var 7), .e (.var 8), .e (.var 9), .e (.var 10), .e (.var 11), .e (.var 12), .e (.var 13), .e (.var 14), .e (.var 15), .e (.var 16), .e (.var 17), .e (.var 18), .e (.var 19), .e (.var 20), .e (.var 21), .e (.var 22), .e (.var 23), .e (.var 24), .e (.var 25), .e (.var 26), .e (.var 27), .e (.var 28), .e (.var 29), .e (.var 30), .e (.var 31), .e (.var 32), .e (.var 33), .e (.var 34), .e (.var 35), .e (.var 36), .e (.var 37), .e (.var 38), .e (.var 39), .e (.var 40), .e (.var 41), .e (.var 42), .e (.var 43), .e (.var 44), .e (.var 45), .e (.var 46), .e (.var 47)], .s (.e (.var 48))], post := [], tout := [.int .i64, .int .i64, .int .i64, .int .i64, .int .i64, .int .i64, .int .i64, .int .i64, .int .i64, .int .i64, .int .i64, .int .i64, .int .i64, .int .i64, .int .i64, .int .i64, .int .i64, .int .i64, .int .i64, .int .i64, .int .i64, .int .i64, .int .i64, .int .i64, .int .i64, .int .i64, .int .i64, .int .i64, .int .i64, .int .i64, .int .i64, .int .i64, .int .i64, .int .i64, .int .i64, .int .i64, .int .i64, .int .i64, .int .i64, .int .i64, .int .i64, .int .i64, .int .i64, .int .i64, .int .i64, .int .i64, .int .i64, .int .i64, .bool], gout := [] }
def cl_iTableOf : List (Nat × Sig) := [(68, sg_iMatValid), (49, sg_need), (51, sg_power), (69, sg_iPair), (70, sg_iHalfS), (56, sg_add), (57, sg_less), (58, sg_real), (59, sg_imag), (72, sg_gotTable)]
theorem run_iTableOf : run ⟨Tryd.prog, glb, cl_iTableOf⟩ [] Tryd.f26 sg_iTableOf (Tryd.f26.body.getD .skip) = tr_iTableOf := by kernel_rfl
theorem om_iTableOf : ΩOK ⟨Tryd.prog, glb, cl_iTableOf⟩ (specsOf Fs_iTableOf) := (ΩOK_cons cong_iMatValid Tryd.call68 (ΩOK_cons cong_need Tryd.call49 (ΩOK_cons cong_power Tryd.call51 (ΩOK_cons cong_iPair Tryd.call69 (ΩOK_cons cong_iHalfS Tryd.call70 (ΩOK_cons cong_add Tryd.call56 (ΩOK_cons cong_less Tryd.call57 (ΩOK_cons cong_real Tryd.call58 (ΩOK_cons cong_imag Tryd.call59 (ΩOK_cons cong_gotTable Tryd.call72 ΩOK_nil))))))))))
theorem con_iTableOf : ConOK Tryd.prog glb 26 sg_iTableOf F_iTableOf.spec := conOK_tree om_iTableOf mixed Tryd.func26 (by kernel_rfl) run_iTableOf
theorem cong_iTableOf : ConOK Tryd.prog glb 26 sg_iTableOf G_iTableOf.spec := con_iTableOf.as as_iTableOf

def sg_sTableOf : Sig := { args := [.ag [.e (.var 0), .e (.var 1), .e (.var 2), .e (.var 3), .e (.var 4), .e (.var 5), .e (.var 6), .e (.var 7), .e (.var 8), .e (.var 9), .e (.var 10), .e (.var 11)]], pre := [], tin := [.int .i64, .int .i64, .int .i64, .int .i64, .int .i64, .int .i64, .int .i64, .int .i64, .int .i64, .int .i64, .int .i64, .int .i64], gin := [], res := .tu [.ag [.e (.var 0), .e (.var 1), .e (.var 2), .e (.var 3), .e (.var 4), .e (.var 5), .e (.var 6), .e (.var 7), .e (.var 8), .e (.var 9), .e (.var 10), .e (.var 11), .e (.var 12), .e (.var 13), .e (.var 14), .e (.var 15), .e (.var 16), .e (.var 17), .e (.var 18), .e (.var 19), .e (.var 20), .e (.var 21), .e (.var 22), .e (.var 23), .e (.var 24), .e (.var 25), .e (.var 26), .e (.var 27), .e (.var 28), .e (.var 29), .e (.var 30), .e (.var 31), .e (.var 32), .e (.var 33), .e (.var 34), .e (.var 35), .e (.var 36), .e (.var 37), .e (.var 38), .e (.var 39), .e (.var 40), .e (.var 41), .e (.var 42), .e (.var 43), .e (.var 44), .e (.var 45), .e (.var 46), .e (.var 47)], .s (.e (.var 48))], post := [], tout := [.int .i64, .int .i64, .int .i64, .int .i64, .int .i64, .int .i64, .int .i64, .int .i64, .int .i64, .int .i64, .int .i64, .int .i64, .int .i64, .int .i64, .int .i64, .int .i64, .int .i64, .int .i64, .int .i64, .int .i64, .int .i64, .int .i64, .int .i64, .int .i64, .int .i64, .int .i64, .int .i64, .int .i64, .int .i64, .int .i64, .int .i64, .int .i64, .int .i64, .int .i64, .int .i64, .int .i64, .int .i64, .int .i64, .int .i64, .int .i64, .int .i64, .int .i64, .int .i64, .int .i64, .int .i64, .int .i64, .int .i64, .int .i64, .bool], gout := [] }
def cl_sTableOf : List (Nat × Sig) := [(64, sg_sMatValid), (65, sg_l6tPowersA), (65, sg_l6tPowersB), (65, sg_l6tPowersC), (65, sg_l6tPowersD), (66, sg_l6tTwo2), (66, sg_l6tTwo3), (66, sg_l6tTwo6), (66, sg_l6tTwo7), (66, sg_l6tTwo8), (66, sg_l6tTwo9), (66, sg_l6tTwo10), (66, sg_l6tTwo11), (66, sg_l6tTwo12), (66, sg_l6tTwo13), (66, sg_l6tTwo14), (66, sg_l6tTwo15)]
theorem run_sTableOf : run ⟨Tryd.prog, glb, cl_sTableOf⟩ [] Tryd.f24 sg_sTableOf (Tryd.f24.body.getD .skip) = tr_sTableOf := by kernel_rfl
theorem om_sTableOf : ΩOK ⟨Tryd.prog, glb, cl_sTableOf⟩ (specsOf Fs_sTableOf) := (ΩOK_cons cong_sMatValid Tryd.call64 (ΩOK_cons con_l6tPowersA Tryd.call65 (ΩOK_cons con_l6tPowersB Tryd.call65 (ΩOK_cons con_l6tPowersC Tryd.call65 (ΩOK_cons con_l6tPowersD Tryd.call65 (ΩOK_cons con_l6tTwo2 Tryd.call66 (ΩOK_cons con_l6tTwo3 Tryd.call66 (ΩOK_cons con_l6tTwo6 Tryd.call66 (ΩOK_cons con_l6tTwo7 Tryd.call66 (ΩOK_cons con_l6tTwo8 Tryd.call66 (ΩOK_cons con_l6tTwo9 Tryd.call66 (ΩOK_cons con_l6tTwo10 Tryd.call66 (ΩOK_cons con_l6tTwo11 Tryd.call66 (ΩOK_cons con_l6tTwo12 Tryd.call66 (ΩOK_cons con_l6tTwo13 Tryd.call66 (ΩOK_cons con_l6tTwo14 Tryd.call66 (ΩOK_cons con_l6tTwo15 Tryd.call66 ΩOK_nil)))))))))))))))))
theorem con_sTableOf : ConOK Tryd.prog glb 24 sg_sTableOf F_sTableOf.spec := conOK_tree om_sTableOf mixed Tryd.func24 (by kernel_rfl) run_sTableOf
theorem cong_sTableOf : ConOK Tryd.prog glb 24 sg_sTableOf G_sTableOf.spec := con_sTableOf.as as_sTableOf

def sg_l5Four : Sig := { args := [.ag [.e (.var 0), .e (.var 1), .e (.var 2)], .ag [.e (.var 3), .e (.var 4), .e (.var 5)], .ag [.e (.var 6), .e (.var 7), .e (.var 8)], .ag [.e (.var 9), .e (.var 10), .e (.var 11)], .s (.e (.var 12))], pre := [], tin := [.int .i64, .int .i64, .int .i64, .int .i64, .int .i64, .int .i64, .int .i64, .int .i64, .int .i64, .int .i64, .int .i64, .int .i64, .bool], gin := [], res := .tu [.ag [.e (.var 0), .e (.var 1), .e (.var 2), .e (.var 3), .e (.var 4), .e (.var 5), .e (.var 6), .e (.var 7), .e (.var 8), .e (.var 9), .e (.var 10), .e (.var 11)], .s (.e (.var 12))], post := [], tout := [.int .i64, .int .i64, .int .i64, .int .i64, .int .i64, .int .i64, .int .i64, .int .i64, .int .i64, .int .i64, .int .i64, .int .i64, .bool], gout := [] }
def cl_l5Four : List (Nat × Sig) := []
theorem run_l5Four : run ⟨Tryd.prog, glb, cl_l5Four⟩ [] Tryd.f116 sg_l5Four (Tryd.f116.body.getD .skip) = tr_l5Four := by kernel_rfl
theorem om_l5Four : ΩOK ⟨Tryd.prog, glb, cl_l5Four⟩ (specsOf Fs_l5Four) := ΩOK_nil
theorem con_l5Four : ConOK Tryd.prog glb 116 sg_l5Four F_l5Four.spec := conOK_tree om_l5Four mixed Tryd.func116 (by kernel_rfl) run_l5Four
theorem cong_l5Four : ConOK Tryd.prog glb 116 sg_l5Four G_l5Four.spec := con_l5Four.as as_l5Four

def sg_sMatTimes : Sig := { args := [.ag [.e (.var 0), .e (.var 1), .e (.var 2), .e (.var 3), .e (.var 4), .e (.var 5), .e (.var 6), .e (.var 7), .e (.var 8), .e (.var 9), .e (.var 10), .e (.var 11)], .ag [.e (.var 12), .e (.var 13), .e (.var 14), .e (.var 15), .e (.var 16), .e (.var 17), .e (.var 18), .e (.var 19), .e (.var 20), .e (.var 21), .e (.var 22), .e (.var 23)]], pre := [], tin := [.int .i64, .int .i64, .int .i64, .int .i64, .int .i64, .int .i64, .int .i64, .int .i64, .int .i64, .int .i64, .int .i64, .int .i64, .int .i64, .int .i64, .int .i64, .int .i64, .int .i64, .int .i64, .int .i64, .int .i64, .int .i64, .int .i64, .int .i64, .int .i64], gin := [], res := .tu [.ag [.e (.var 0), .e (.var 1), .e (.var 2), .e (.var 3), .e (.var 4), .e (.var 5), .e (.var 6), .e (.var 7), .e (.var 8), .e (.var 9), .e (.var 10), .e (.var 11)], .s (.e (.var 12))], post := [], tout := [.int .i64, .int .i64, .int .i64, .int .i64, .int .i64, .int .i64, .int .i64, .int .i64, .int .i64, .int .i64, .int .i64, .int .i64, .bool], gout := [] }
def cl_sMatTimes : List (Nat × Sig) := [(64, sg_sMatValid), (121, sg_l3Inner), (116, sg_l5Four)]
theorem run_sMatTimes : run ⟨Tryd.prog, glb, cl_sMatTimes⟩ [] Tryd.f118 sg_sMatTimes (Tryd.f118.body.getD .skip) = tr_sMatTimes := by kernel_rfl
theorem om_sMatTimes : ΩOK ⟨Tryd.prog, glb, cl_sMatTimes⟩ (specsOf Fs_sMatTimes) := (ΩOK_cons cong_sMatValid Tryd.call64 (ΩOK_cons cong_l3Inner Tryd.call121 (ΩOK_cons cong_l5Four Tryd.call116 ΩOK_nil)))
theorem con_sMatTimes : ConOK Tryd.prog glb 118 sg_sMatTimes F_sMatTimes.spec := conOK_tree om_sMatTimes mixed Tryd.func118 (by kernel_rfl) run_sMatTimes
theorem cong_sMatTimes : ConOK Tryd.prog glb 118 sg_sMatTimes G_sMatTimes.spec := con_sMatTimes.as as_sMatTimes

def sg_l5One : Sig := { args := [.ag [.e (.var 0), .e (.var 1), .e (.var 2)], .ag [.e (.var 3), .e (.var 4), .e (.var 5)]], pre := [], tin := [.int .i64, .int .i64, .int .i64, .int .i64, .int .i64, .int .i64], gin := [], res := .c (.ag [.e (.var 0), .e (.var 1), .e (.var 2), .e (.var 3), .e (.var 4), .e (.var 5), .e (.var 6), .e (.var 7), .e (.var 8), .e (.var 9), .e (.var 10), .e (.var 11)]), post := [], tout := [.int .i64, .int .i64, .int .i64, .int .i64, .int .i64, .int .i64, .int .i64, .int .i64, .int .i64, .int .i64, .int .i64, .int .i64], gout := [] }
def cl_l5One : List (Nat × Sig) := []
theorem run_l5One : run ⟨Tryd.prog, glb, cl_l5One⟩ [] Tryd.f119 sg_l5One (Tryd.f119.body.getD .skip) = tr_l5One := by kernel_rfl
theorem om_l5One : ΩOK ⟨Tryd.prog, glb, cl_l5One⟩ (specsOf Fs_l5One) := ΩOK_nil
theorem con_l5One : ConOK Tryd.prog glb 119 sg_l5One F_l5One.spec := conOK_tree om_l5One mixed Tryd.func119 (by kernel_rfl) run_l5One

def sg_mrow0 : Sig := { args := [.s (.e (.int .i64 (0))), .s (.p (.own 0) 0), .s (.p (.own 1) 0), .s (.p (.own 2) 0)], pre := [⟨[.p (.own 3) 0], 82⟩, ⟨[.e (.var 0), .e (.var 1), .e (.var 2), .e (.var 3), .e (.var 4), .e (.var 5), .e (.var 6), .e (.var 7), .e (.var 8), .e (.var 9), .e (.var 10), .e (.var 11)], 57⟩, ⟨[.e (.var 12), .e (.var 13), .e (.var 14), .e (.var 15), .e (.var 16), .e (.var 17)], 44⟩, ⟨[.e (.var 18)], 84⟩], tin := [.int .i64, .int .i64, .int .i64, .int .i64, .int .i64, .int .i64, .int .i64, .int .i64, .int .i64, .int .i64, .int .i64, .int .i64, .int .i64, .int .i64, .int .i64, .int .i64, .int .i64, .int .i64, .bool], gin := [], res := .c (.ag [.e (.var 0), .e (.var 1), .e (.var 2)]), post := [⟨[.p (.own 3) 0], 82⟩, ⟨[.e (.var 3), .e (.var 4), .e (.var 5), .e (.var 6), .e (.var 7), .e (.var 8), .e (.var 9), .e (.var 10), .e (.var 11), .e (.var 12), .e (.var 13), .e (.var 14)], 57⟩, ⟨[.e (.var 15), .e (.var 16), .e (.var 17), .e (.var 18), .e (.var 19), .e (.var 20)], 44⟩, ⟨[.e (.var 21)], 84⟩], tout := [.int .i64, .int .i64, .int .i64, .int .i64, .int .i64, .int .i64, .int .i64, .int .i64, .int .i64, .int .i64, .int .i64, .int .i64, .int .i64, .int .i64, .int .i64, .int .i64, .int .i64, .int .i64, .int .i64, .int .i64, .int .i64, .bool], gout := [] }
def cl_mrow0 : List (Nat × Sig) := [(52, sg_times), (56, sg_add)]
theorem run_mrow0 : run ⟨Tryd.prog, glb, cl_mrow0⟩ [] Tryd.f77 sg_mrow0 (Tryd.f77.body.getD .skip) = tr_mrow0 := by kernel_rfl
theorem om_mrow0 : ΩOK ⟨Tryd.prog, glb, cl_mrow0⟩ (specsOf Fs_mrow0) := (ΩOK_cons cong_times Tryd.call52 (ΩOK_cons cong_add Tryd.call56 ΩOK_nil))
theorem con_mrow0 : ConOK Tryd.prog glb 77 sg_mrow0 F_mrow0.spec := conOK_tree om_mrow0 mixed Tryd.func77 (by kernel_rfl) run_mrow0
theorem cong_mrow0 : ConOK Tryd.prog glb 77 sg_mrow0 G_mrow0.spec := con_mrow0.as as_mrow0

def sg_mrow1 : Sig := { args := [.s (.e (.int .i64 (1))), .s (.p (.own 0) 0), .s (.p (.own 1) 0), .s (.p (.own 2) 0)], pre := [⟨[.p (.own 3) 0], 82⟩, ⟨[.e (.var 0), .e (.var 1), .e (.var 2), .e (.var 3), .e (.var 4), .e (.var 5), .e (.var 6), .e (.var 7), .e (.var 8), .e (.var 9), .e (.var 10), .e (.var 11)], 57⟩, ⟨[.e (.var 12), .e (.var 13), .e (.var 14), .e (.var 15), .e (.var 16), .e (.var 17)], 44⟩, ⟨[.e (.var 18)], 84⟩], tin := [.int .i64, .int .i64, .int .i64, .int .i64, .int .i64, .int .i64, .int .i64, .int .i64, .int .i64, .int .i64, .int .i64, .int .i64, .int .i64, .int .i64, .int .i64, .int .i64, .int .i64, .int .i64, .bool], gin := [], res := .c (.ag [.e (.var 0), .e (.var 1), .e (.var 2)]), post := [⟨[.p (.own 3) 0], 82⟩, ⟨[.e (.var 3), .e (.var 4), .e (.var 5), .e (.var 6), .e (.var 7), .e (.var 8), .e (.var 9), .e (.var 10), .e (.var 11), .e (.var 12), .e (.var 13), .e (.var 14)], 57⟩, ⟨[.e (.var 15), .e (.var 16), .e (.var 17), .e (.var 18), .e (.var 19), .e (.var 20)], 44⟩, ⟨[.e (.var 21)], 84⟩], tout := [.int .i64, .int .i64, .int .i64, .int .i64, .int .i64, .int .i64, .int .i64, .int .i64, .int .i64, .int .i64, .int .i64, .int .i64, .int .i64, .int .i64, .int .i64, .int .i64, .int .i64, .int .i64, .int .i64, .int .i64, .int .i64, .bool], gout := [] }
def cl_mrow1 : List (Nat × Sig) := [(52, sg_times), (56, sg_add)]
theorem run_mrow1 : run ⟨Tryd.prog, glb, cl_mrow1⟩ [] Tryd.f77 sg_mrow1 (Tryd.f77.body.getD .skip) = tr_mrow1 := by kernel_rfl
theorem om_mrow1 : ΩOK ⟨Tryd.prog, glb, cl_mrow1⟩ (specsOf Fs_mrow1) := (ΩOK_cons cong_times Tryd.call52 (ΩOK_cons cong_add Tryd.call56 ΩOK_nil))
theorem con_mrow1 : ConOK Tryd.prog glb 77 sg_mrow1 F_mrow1.spec := conOK_tree om_mrow1 mixed Tryd.func77 (by kernel_rfl) run_mrow1
theorem cong_mrow1 : ConOK Tryd.prog glb 77 sg_mrow1 G_mrow1.spec := con_mrow1.as as_mrow1

def sg_gotJones : Sig := { args := [.s (.p (.own 0) 0), .ag [.e (.var 0), .e (.var 1), .e (.var 2), .e (.var 3), .e (.var 4), .e (.var 5)]], pre := [⟨[.e (.var 6)], 84⟩], tin := [.int .i64, .int .i64, .int .i64, .int .i64, .int .i64, .int .i64, .bool], gin := [], res := .tu [.ag [.e (.var 0), .e (.var 1), .e (.var 2), .e (.var 3), .e (.var 4), .e (.var 5)], .s (.e (.var 6))], post := [⟨[.e (.var 7)], 84⟩], tout := [.int .i64, .int .i64, .int .i64, .int .i64, .int .i64, .int .i64, .bool, .bool], gout := [] }
def cl_gotJones : List (Nat × Sig) := []
theorem run_gotJones : run ⟨Tryd.prog, glb, cl_gotJones⟩ [] Tryd.f78 sg_gotJones (Tryd.f78.body.getD .skip) = tr_gotJones := by kernel_rfl
theorem om_gotJones : ΩOK ⟨Tryd.prog, glb, cl_gotJones⟩ (specsOf Fs_gotJones) := ΩOK_nil
theorem con_gotJones : ConOK Tryd.prog glb 78 sg_gotJones F_gotJones.spec := conOK_tree om_gotJones mixed Tryd.func78 (by kernel_rfl) run_gotJones
theorem cong_gotJones : ConOK Tryd.prog glb 78 sg_gotJones G_gotJones.spec := con_gotJones.as as_gotJones

def sg_iJonesValid : Sig := { args := [.ag [.e (.var 0), .e (.var 1), .e (.var 2), .e (.var 3), .e (.var 4), .e (.var 5)]], pre := [], tin := [.int .i64, .int .i64, .int .i64, .int .i64, .int .i64, .int .i64], gin := [], res := .c (.s (.e (.var 0))), post := [], tout := [.bool], gout := [] }
def cl_iJonesValid : List (Nat × Sig) := [(87, sg_iFracValid)]
theorem run_iJonesValid : run ⟨Tryd.prog, glb, cl_iJonesValid⟩ [] Tryd.f50 sg_iJonesValid (Tryd.f50.body.getD .skip) = tr_iJonesValid := by kernel_rfl
theorem om_iJonesValid : ΩOK ⟨Tryd.prog, glb, cl_iJonesValid⟩ (specsOf Fs_iJonesValid) := (ΩOK_cons cong_iFracValid Tryd.call87 ΩOK_nil)
theorem con_iJonesValid : ConOK Tryd.prog glb 50 sg_iJonesValid F_iJonesValid.spec := conOK_tree om_iJonesValid mixed Tryd.func50 (by kernel_rfl) run_iJonesValid
theorem cong_iJonesValid : ConOK Tryd.prog glb 50 sg_iJonesValid G_iJonesValid.spec := con_iJonesValid.as as_iJonesValid

def sg_iMatApply : Sig := { args := [.ag [.e (.var 0), .e (.var 1), .e (.var 2), .e (.var 3), .e (.var 4), .e (.var 5), .e (.var 6), .e (.var 7), .e (.var 8), .e (.var 9), .e (.var 10), .e (.var 11)], .ag [.e (.var 12), .e (.var 13), .e (.var 14), .e (.var 15), .e (.var 16), .e (.var 17)]], pre := [], tin := [.int .i64, .int .i64, .int .i64, .int .i64, .int .i64, .int .i64, .int .i64, .int .i64, .int .i64, .int .i64, .int .i64, .int .i64, .int .i64, .int .i64, .int .i64, .int .i64, .int .i64, .int .i64], gin := [], res := .tu [.ag [.e (.var 0), .e (.var 1), .e (.var 2), .e (.var 3), .e (.var 4), .e (.var 5)], .s (.e (.var 6))], post := [], tout := [.int .i64, .int .i64, .int .i64, .int .i64, .int .i64, .int .i64, .bool], gout := [] }
def cl_iMatApply : List (Nat × Sig) := [(68, sg_iMatValid), (50, sg_iJonesValid), (49, sg_need), (77, sg_mrow0), (77, sg_mrow1), (78, sg_gotJones)]
theorem run_iMatApply : run ⟨Tryd.prog, glb, cl_iMatApply⟩ [] Tryd.f34 sg_iMatApply (Tryd.f34.body.getD .skip) = tr_iMatApply := by kernel_rfl
theorem om_iMatApply : ΩOK ⟨Tryd.prog, glb, cl_iMatApply⟩ (specsOf Fs_iMatApply) := (ΩOK_cons cong_iMatValid Tryd.call68 (ΩOK_cons cong_iJonesValid Tryd.call50 (ΩOK_cons cong_need Tryd.call49 (ΩOK_cons cong_mrow0 Tryd.call77 (ΩOK_cons cong_mrow1 Tryd.call77 (ΩOK_cons cong_gotJones Tryd.call78 ΩOK_nil))))))
theorem con_iMatApply : ConOK Tryd.prog glb 34 sg_iMatApply F_iMatApply.spec := conOK_tree om_iMatApply mixed Tryd.func34 (by kernel_rfl) run_iMatApply
theorem cong_iMatApply : ConOK Tryd.prog glb 34 sg_iMatApply G_iMatApply.spec := con_iMatApply.as as_iMatApply

def sg_pick : Sig := { args := [.s (.p (.own 0) 0), .s (.e (.var 0))], pre := [⟨[.e (.var 1), .e (.var 2)], 113⟩], tin := [.int .i64, .sl, .int .i64, .row .u8 1], gin := [(1, 3, 1)], res := .c (.s (.e (.var 0))), post := [⟨[.e (.var 1), .e (.var 2)], 113⟩], tout := [.int .i64, .sl, .int .i64], gout := [] }
def cl_pick : List (Nat × Sig) := []
theorem run_pick : run ⟨Tryd.prog, glb, cl_pick⟩ [] Tryd.f85 sg_pick (Tryd.f85.body.getD .skip) = tr_pick := by kernel_rfl
theorem om_pick : ΩOK ⟨Tryd.prog, glb, cl_pick⟩ (specsOf Fs_pick) := ΩOK_nil
theorem con_pick : ConOK Tryd.prog glb 85 sg_pick F_pick.spec := conOK_tree om_pick mixed Tryd.func85 (by kernel_rfl) run_pick

def sg_sMatAdjoint : Sig := { args := [.ag [.e (.var 0), .e (.var 1), .e (.var 2), .e (.var 3), .e (.var 4), .e (.var 5), .e (.var 6), .e (.var 7), .e (.var 8), .e (.var 9), .e (.var 10), .e (.var 11)]], pre := [], tin := [.int .i64, .int .i64, .int .i64, .int .i64, .int .i64, .int .i64, .int .i64, .int .i64, .int .i64, .int .i64, .int .i64, .int .i64], gin := [], res := .tu [.ag [.e (.var 0), .e (.var 1), .e (.var 2), .e (.var 3), .e (.var 4), .e (.var 5), .e (.var 6), .e (.var 7), .e (.var 8), .e (.var 9), .e (.var 10), .e (.var 11)], .s (.e (.var 12))], post := [], tout := [.int .i64, .int .i64, .int .i64, .int .i64, .int .i64, .int .i64, .int .i64, .int .i64, .int .i64, .int .i64, .int .i64, .int .i64, .bool], gout := [] }
def cl_sMatAdjoint : List (Nat × Sig) := [(111, sg_sFracMirror), (116, sg_l5Four)]
theorem run_sMatAdjoint : run ⟨Tryd.prog, glb, cl_sMatAdjoint⟩ [] Tryd.f117 sg_sMatAdjoint (Tryd.f117.body.getD .skip) = tr_sMatAdjoint := by kernel_rfl
theorem om_sMatAdjoint : ΩOK ⟨Tryd.prog, glb, cl_sMatAdjoint⟩ (specsOf Fs_sMatAdjoint) := (ΩOK_cons cong_sFracMirror Tryd.call111 (ΩOK_cons cong_l5Four Tryd.call116 ΩOK_nil))
theorem con_sMatAdjoint : ConOK Tryd.prog glb 117 sg_sMatAdjoint F_sMatAdjoint.spec := conOK_tree om_sMatAdjoint mixed Tryd.func117 (by kernel_rfl) run_sMatAdjoint

def sg_sMatRotator : Sig := { args := [.s (.e (.var 0)), .s (.e (.var 1))], pre := [], tin := [.int .i64, .int .i64], gin := [], res := .tu [.ag [.e (.var 0), .e (.var 1), .e (.var 2), .e (.var 3), .e (.var 4), .e (.var 5), .e (.var 6), .e (.var 7), .e (.var 8), .e (.var 9), .e (.var 10), .e (.var 11)], .s (.e (.var 12))], post := [], tout := [.int .i64, .int .i64, .int .i64, .int .i64, .int .i64, .int .i64, .int .i64, .int .i64, .int .i64, .int .i64, .int .i64, .int .i64, .bool], gout := [] }
def cl_sMatRotator : List (Nat × Sig) := [(115, sg_l5Direction), (116, sg_l5Four)]
theorem run_sMatRotator : run ⟨Tryd.prog, glb, cl_sMatRotator⟩ [] Tryd.f103 sg_sMatRotator (Tryd.f103.body.getD .skip) = tr_sMatRotator := by kernel_rfl
theorem om_sMatRotator : ΩOK ⟨Tryd.prog, glb, cl_sMatRotator⟩ (specsOf Fs_sMatRotator) := (ΩOK_cons cong_l5Direction Tryd.call115 (ΩOK_cons cong_l5Four Tryd.call116 ΩOK_nil))
theorem con_sMatRotator : ConOK Tryd.prog glb 103 sg_sMatRotator F_sMatRotator.spec := conOK_tree om_sMatRotator mixed Tryd.func103 (by kernel_rfl) run_sMatRotator

def sg_l5PhaseK : Sig := { args := [.s (.e (.var 0))], pre := [], tin := [.int .i64], gin := [], res := .c (.ag [.e (.var 0), .e (.var 1), .e (.var 2)]), post := [], tout := [.int .i64, .int .i64, .int .i64], gout := [] }
def cl_l5PhaseK : List (Nat × Sig) := []
theorem run_l5PhaseK : run ⟨Tryd.prog, glb, cl_l5PhaseK⟩ [] Tryd.f120 sg_l5PhaseK (Tryd.f120.body.getD .skip) = tr_l5PhaseK := by kernel_rfl
theorem om_l5PhaseK : ΩOK ⟨Tryd.prog, glb, cl_l5PhaseK⟩ (specsOf Fs_l5PhaseK) := ΩOK_nil
theorem con_l5PhaseK : ConOK Tryd.prog glb 120 sg_l5PhaseK F_l5PhaseK.spec := conOK_tree om_l5PhaseK mixed Tryd.func120 (by kernel_rfl) run_l5PhaseK

def sg_sMatPlate : Sig := { args := [.s (.e (.var 0)), .s (.e (.var 1)), .s (.e (.var 2))], pre := [], tin := [.int .i64, .int .i64, .int .i64], gin := [], res := .tu [.ag [.e (.var 0), .e (.var 1), .e (.var 2), .e (.var 3), .e (.var 4), .e (.var 5), .e (.var 6), .e (.var 7), .e (.var 8), .e (.var 9), .e (.var 10), .e (.var 11)], .s (.e (.var 12))], post := [], tout := [.int .i64, .int .i64, .int .i64, .int .i64, .int .i64, .int .i64, .int .i64, .int .i64, .int .i64, .int .i64, .int .i64, .int .i64, .bool], gout := [] }
def cl_sMatPlate : List (Nat × Sig) := [(103, sg_sMatRotator), (89, sg_l6In), (117, sg_sMatAdjoint), (120, sg_l5PhaseK), (119, sg_l5One), (118, sg_sMatTimes)]
theorem run_sMatPlate : run ⟨Tryd.prog, glb, cl_sMatPlate⟩ [] Tryd.f104 sg_sMatPlate (Tryd.f104.body.getD .skip) = tr_sMatPlate := by kernel_rfl
theorem om_sMatPlate : ΩOK ⟨Tryd.prog, glb, cl_sMatPlate⟩ (specsOf Fs_sMatPlate) := (ΩOK_cons con_sMatRotator Tryd.call103 (ΩOK_cons cong_l6In Tryd.call89 (ΩOK_cons con_sMatAdjoint Tryd.call117 (ΩOK_cons con_l5PhaseK Tryd.call120 (ΩOK_cons con_l5One Tryd.call119 (ΩOK_cons cong_sMatTimes Tryd.call118 ΩOK_nil))))))
theorem con_sMatPlate : ConOK Tryd.prog glb 104 sg_sMatPlate F_sMatPlate.spec := conOK_tree om_sMatPlate mixed Tryd.func104 (by kernel_rfl) run_sMatPlate

def sg_sMatFilter : Sig := { args := [.s (.e (.var 0)), .s (.e (.var 1))], pre := [], tin := [.int .i64, .int .i64], gin := [], res := .tu [.ag [.e (.var 0), .e (.var 1), .e (.var 2), .e (.var 3), .e (.var 4), .e (.var 5), .e (.var 6), .e (.var 7), .e (.var 8), .e (.var 9), .e (.var 10), .e (.var 11)], .s (.e (.var 12))], post := [], tout := [.int .i64, .int .i64, .int .i64, .int .i64, .int .i64, .int .i64, .int .i64, .int .i64, .int .i64, .int .i64, .int .i64, .int .i64, .bool], gout := [] }
def cl_sMatFilter : List (Nat × Sig) := [(115, sg_l5Direction), (112, sg_sFracTimes), (116, sg_l5Four)]
theorem run_sMatFilter : run ⟨Tryd.prog, glb, cl_sMatFilter⟩ [] Tryd.f105 sg_sMatFilter (Tryd.f105.body.getD .skip) = tr_sMatFilter := by kernel_rfl
theorem om_sMatFilter : ΩOK ⟨Tryd.prog, glb, cl_sMatFilter⟩ (specsOf Fs_sMatFilter) := (ΩOK_cons cong_l5Direction Tryd.call115 (ΩOK_cons cong_sFracTimes Tryd.call112 (ΩOK_cons cong_l5Four Tryd.call116 ΩOK_nil)))
theorem con_sMatFilter : ConOK Tryd.prog glb 105 sg_sMatFilter F_sMatFilter.spec := conOK_tree om_sMatFilter mixed Tryd.func105 (by kernel_rfl) run_sMatFilter

def sg_pickC : Sig := { args := [.s (.p (.own 0) 0), .s (.e (.var 0))], pre := [⟨[.e (.var 1), .e (.var 2)], 113⟩], tin := [.int .i64, .sl, .int .i64], gin := [], res := .c (.s (.e (.var 0))), post := [⟨[.e (.var 1), .e (.var 2)], 113⟩], tout := [.int .i64, .sl, .int .i64], gout := [] }
theorem con_pickC {cb : CodeB} (hk : CodeOk cb) (hG : Known cb (glb ++ cb.tail)) : ConOK Tryd.prog (glb ++ cb.tail) 85 sg_pickC (G_pick cb).spec := conOK_ghost (t := 113) hk hG con_pick.more (ghost_pick hk)


def sg_openC : Sig := { args := [.s (.e (.var 0))], pre := [], tin := [.sl], gin := [], res := .c (.s (.p (.own 0) 0)), post := [⟨[.e (.var 0), .e (.var 1)], 113⟩], tout := [.sl, .int .i64], gout := [] }
set_option maxHeartbeats 800000 in
set_option maxRecDepth 1000000 in
theorem open_short (a : Option Addr) (len cap : Nat) (w : World) (hl : len ≤ 2000) :
    Calls Tryd.prog 44 #[.slice a len cap] w fun e w' => e = .returned (.pointer (some ⟨w.heap.size, 0, none⟩)) ∧ w' = w.alloc (.cells #[.slice a len cap, .int .i64 0] 113) := by
  go_enter Tryd.func44, Tryd.ntmps44
  go_wp2
  go_ret
  exact ⟨rfl, rfl⟩
set_option maxHeartbeats 800000 in
set_option maxRecDepth 1000000 in
theorem open_long (a : Addr) (len cap : Nat) (w : World) (hl : ¬ len ≤ 2000) (hc : len ≤ cap) (hm : len ≤ 1048576) :
    Calls Tryd.prog 44 #[.slice (some a) len cap] w fun e w' => e = .returned (.pointer (some ⟨w.heap.size, 0, none⟩)) ∧ w' = w.alloc (.cells #[.slice (some a) 2000 cap, .int .i64 0] 113) := by
  go_enter Tryd.func44, Tryd.ntmps44
  go_wp2
  go_ret
  exact ⟨rfl, rfl⟩
theorem con_openC {cb : CodeB} (_ : CodeOk cb) (_ : Known cb (glb ++ cb.tail)) : ConOK Tryd.prog (glb ++ cb.tail) 44 sg_openC (G_open cb).spec := conOK_open (t := 113) open_short open_long


def sg_l91Frac : Sig := { args := [.s (.p (.own 0) 0)], pre := [⟨[.e (.var 0), .e (.var 1)], 113⟩], tin := [.sl, .int .i64], gin := [], res := .c (.ag [.e (.var 0), .e (.var 1), .e (.var 2)]), post := [⟨[.e (.var 3), .e (.var 4)], 113⟩], tout := [.int .i64, .int .i64, .int .i64, .sl, .int .i64], gout := [] }
def cl_l91Frac : List (Nat × Sig) := [(85, sg_pickC), (86, sg_l2Low)]
theorem run_l91Frac : (fun H : List (Nat × List Sc) => run ⟨Tryd.prog, glb ++ H, cl_l91Frac⟩ [] Tryd.f84 sg_l91Frac (Tryd.f84.body.getD .skip)) = fun _ => tr_l91Frac := by kernel_rfl
theorem om_l91Frac {cb : CodeB} (hk : CodeOk cb) (hG : Known cb (glb ++ cb.tail)) : ΩOK ⟨Tryd.prog, glb ++ cb.tail, cl_l91Frac⟩ (specsOf (Fs_l91Frac cb)) := (ΩOK_cons (con_pickC hk hG) Tryd.call85 (ΩOK_cons cong_l2Low.more Tryd.call86 ΩOK_nil))
theorem con_l91Frac {cb : CodeB} (hk : CodeOk cb) (hG : Known cb (glb ++ cb.tail)) : ConOK Tryd.prog (glb ++ cb.tail) 84 sg_l91Frac (F_l91Frac cb).spec := conOK_tree (om_l91Frac hk hG) mixed Tryd.func84 (by kernel_rfl) (congrFun run_l91Frac cb.tail)

def sg_l91Direction : Sig := { args := [.s (.p (.own 0) 0)], pre := [⟨[.e (.var 0), .e (.var 1)], 113⟩], tin := [.sl, .int .i64], gin := [], res := .tu [.s (.e (.var 0)), .s (.e (.var 1))], post := [⟨[.e (.var 2), .e (.var 3)], 113⟩], tout := [.int .i64, .int .i64, .sl, .int .i64], gout := [] }
def cl_l91Direction : List (Nat × Sig) := [(85, sg_pickC)]
theorem run_l91Direction : (fun H : List (Nat × List Sc) => run ⟨Tryd.prog, glb ++ H, cl_l91Direction⟩ [] Tryd.f102 sg_l91Direction (Tryd.f102.body.getD .skip)) = fun _ => tr_l91Direction := by kernel_rfl
theorem om_l91Direction {cb : CodeB} (hk : CodeOk cb) (hG : Known cb (glb ++ cb.tail)) : ΩOK ⟨Tryd.prog, glb ++ cb.tail, cl_l91Direction⟩ (specsOf (Fs_l91Direction cb)) := (ΩOK_cons (con_pickC hk hG) Tryd.call85 ΩOK_nil)
theorem con_l91Direction {cb : CodeB} (hk : CodeOk cb) (hG : Known cb (glb ++ cb.tail)) : ConOK Tryd.prog (glb ++ cb.tail) 102 sg_l91Direction (F_l91Direction cb).spec := conOK_tree (om_l91Direction hk hG) mixed Tryd.func102 (by kernel_rfl) (congrFun run_l91Direction cb.tail)

def sg_l91Mat : Sig := { args := [.s (.p (.own 0) 0)], pre := [⟨[.e (.var 0), .e (.var 1)], 113⟩], tin := [.sl, .int .i64], gin := [], res := .c (.ag [.e (.var 0), .e (.var 1), .e (.var 2), .e (.var 3), .e (.var 4), .e (.var 5), .e (.var 6), .e (.var 7), .e (.var 8), .e (.var 9), .e (.var 10), .e (.var 11)]), post := [⟨[.e (.var 12), .e (.var 13)], 113⟩], tout := [.int .i64, .int .i64, .int .i64, .int .i64, .int .i64, .int .i64, .int .i64, .int .i64, .int .i64, .int .i64, .int .i64, .int .i64, .sl, .int .i64], gout := [] }
def cl_l91Mat : List (Nat × Sig) := [(85, sg_pickC), (102, sg_l91Direction), (103, sg_sMatRotator), (104, sg_sMatPlate), (105, sg_sMatFilter), (84, sg_l91Frac)]
theorem run_l91Mat : (fun H : List (Nat × List Sc) => run ⟨Tryd.prog, glb ++ H, cl_l91Mat⟩ [] Tryd.f76 sg_l91Mat (Tryd.f76.body.getD .skip)) = fun _ => tr_l91Mat := by kernel_rfl
theorem om_l91Mat {cb : CodeB} (hk : CodeOk cb) (hG : Known cb (glb ++ cb.tail)) : ΩOK ⟨Tryd.prog, glb ++ cb.tail, cl_l91Mat⟩ (specsOf (Fs_l91Mat cb)) := (ΩOK_cons (con_pickC hk hG) Tryd.call85 (ΩOK_cons (con_l91Direction hk hG) Tryd.call102 (ΩOK_cons con_sMatRotator.more Tryd.call103 (ΩOK_cons con_sMatPlate.more Tryd.call104 (ΩOK_cons con_sMatFilter.more Tryd.call105 (ΩOK_cons (con_l91Frac hk hG) Tryd.call84 ΩOK_nil))))))
theorem con_l91Mat {cb : CodeB} (hk : CodeOk cb) (hG : Known cb (glb ++ cb.tail)) : ConOK Tryd.prog (glb ++ cb.tail) 76 sg_l91Mat (F_l91Mat cb).spec := conOK_tree (om_l91Mat hk hG) mixed Tryd.func76 (by kernel_rfl) (congrFun run_l91Mat cb.tail)

def sg_iStokesOfG : Sig := { args := [.ag [.e (.var 0), .e (.var 1), .e (.var 2), .e (.var 3), .e (.var 4), .e (.var 5)]], pre := [], tin := [.int .i64, .int .i64, .int .i64, .int .i64, .int .i64, .int .i64], gin := [], res := .tu [.ag [.e (.var 0), .e (.var 1), .e (.var 2), .e (.var 3), .e (.var 4), .e (.var 5), .e (.var 6), .e (.var 7), .e (.var 8), .e (.var 9), .e (.var 10), .e (.var 11)], .s (.e (.var 12))], post := [], tout := [.int .i64, .int .i64, .int .i64, .int .i64, .int .i64, .int .i64, .int .i64, .int .i64, .int .i64, .int .i64, .int .i64, .int .i64, .bool], gout := [] }
def cl_iStokesOfG : List (Nat × Sig) := [(50, sg_iJonesValid), (49, sg_need), (51, sg_power), (53, sg_mirror), (52, sg_times), (54, sg_whole2), (58, sg_real), (59, sg_imag), (56, sg_add), (57, sg_less), (55, sg_gotStokes)]
theorem run_iStokesOfG : run ⟨Tryd.prog, glb, cl_iStokesOfG⟩ [] Tryd.f17 sg_iStokesOfG (Tryd.f17.body.getD .skip) = tr_iStokesOfG := by kernel_rfl
theorem om_iStokesOfG : ΩOK ⟨Tryd.prog, glb, cl_iStokesOfG⟩ (specsOf Fs_iStokesOfG) := (ΩOK_cons cong_iJonesValid Tryd.call50 (ΩOK_cons cong_need Tryd.call49 (ΩOK_cons cong_power Tryd.call51 (ΩOK_cons cong_mirror Tryd.call53 (ΩOK_cons cong_times Tryd.call52 (ΩOK_cons con_whole2 Tryd.call54 (ΩOK_cons cong_real Tryd.call58 (ΩOK_cons cong_imag Tryd.call59 (ΩOK_cons cong_add Tryd.call56 (ΩOK_cons cong_less Tryd.call57 (ΩOK_cons cong_gotStokes Tryd.call55 ΩOK_nil)))))))))))
theorem con_iStokesOfG : ConOK Tryd.prog glb 17 sg_iStokesOfG F_iStokesOfG.spec := conOK_tree om_iStokesOfG mixed Tryd.func17 (by kernel_rfl) run_iStokesOfG
theorem cong_iStokesOfG : ConOK Tryd.prog glb 17 sg_iStokesOfG G_iStokesOfG.spec := con_iStokesOfG.as as_iStokesOfG

def sg_DrawTableOf : Sig := { args := [.s (.e (.var 0))], pre := [], tin := [.sl], gin := [], res := .c (.ag [.e (.var 0), .e (.var 1), .e (.var 2), .e (.var 3), .e (.var 4), .e (.var 5), .e (.var 6), .e (.var 7), .e (.var 8), .e (.var 9), .e (.var 10), .e (.var 11)]), post := [], tout := [.int .i64, .int .i64, .int .i64, .int .i64, .int .i64, .int .i64, .int .i64, .int .i64, .int .i64, .int .i64, .int .i64, .int .i64], gout := [] }
def cl_DrawTableOf : List (Nat × Sig) := [(44, sg_openC), (76, sg_l91Mat)]
theorem run_DrawTableOf : (fun H : List (Nat × List Sc) => run ⟨Tryd.prog, glb ++ H, cl_DrawTableOf⟩ [] Tryd.f33 sg_DrawTableOf (Tryd.f33.body.getD .skip)) = fun _ => tr_DrawTableOf := by kernel_rfl
theorem om_DrawTableOf {cb : CodeB} (hk : CodeOk cb) (hG : Known cb (glb ++ cb.tail)) : ΩOK ⟨Tryd.prog, glb ++ cb.tail, cl_DrawTableOf⟩ (specsOf (Fs_DrawTableOf cb)) := (ΩOK_cons (con_openC hk hG) Tryd.call44 (ΩOK_cons (con_l91Mat hk hG) Tryd.call76 ΩOK_nil))
theorem con_DrawTableOf {cb : CodeB} (hk : CodeOk cb) (hG : Known cb (glb ++ cb.tail)) : ConOK Tryd.prog (glb ++ cb.tail) 33 sg_DrawTableOf (F_DrawTableOf cb).spec := conOK_tree (om_DrawTableOf hk hG) mixed Tryd.func33 (by kernel_rfl) (congrFun run_DrawTableOf cb.tail)

def sg_FnTableOf : Sig := { args := [.s (.e (.var 0))], pre := [], tin := [.sl], gin := [], res := .c (.s (.e (.var 0))), post := [], tout := [.bool], gout := [] }
def cl_FnTableOf : List (Nat × Sig) := [(33, sg_DrawTableOf), (26, sg_iTableOf), (24, sg_sTableOf), (17, sg_iStokesOfG), (18, sg_iTableApply), (34, sg_iMatApply), (29, sg_iTableValid)]
theorem run_FnTableOf : (fun H : List (Nat × List Sc) => run ⟨Tryd.prog, glb ++ H, cl_FnTableOf⟩ [] Tryd.f8 sg_FnTableOf (Tryd.f8.body.getD .skip)) = fun _ => tr_FnTableOf := by kernel_rfl
theorem draw_DrawTableOf {cb : CodeB} (hk : CodeOk cb) (hG : Known cb (glb ++ cb.tail)) : ConOK Tryd.prog (glb ++ cb.tail) 33 sg_DrawTableOf (drawSpec dt_FnTableOf (drawPre cb)) := (con_DrawTableOf hk hG).draw (draw_pre (aok_DrawTableOf hk) (by kernel_rfl))
theorem om_FnTableOf {cb : CodeB} (hk : CodeOk cb) (hG : Known cb (glb ++ cb.tail)) : ΩOK ⟨Tryd.prog, glb ++ cb.tail, cl_FnTableOf⟩ (Ss_FnTableOf cb) := ΩOK_specs (draw_DrawTableOf hk hG) Tryd.call33 (ΩOK_cons cong_iTableOf.more Tryd.call26 (ΩOK_cons cong_sTableOf.more Tryd.call24 (ΩOK_cons cong_iStokesOfG.more Tryd.call17 (ΩOK_cons cong_iTableApply.more Tryd.call18 (ΩOK_cons cong_iMatApply.more Tryd.call34 (ΩOK_cons cong_iTableValid.more Tryd.call29 ΩOK_nil))))))
theorem con_FnTableOf {cb : CodeB} (hk : CodeOk cb) (hG : Known cb (glb ++ cb.tail)) : ConOK Tryd.prog (glb ++ cb.tail) 8 sg_FnTableOf (lawF cb).spec := conOK_of (om_FnTableOf hk hG) mixed Tryd.func8 (by kernel_rfl) (congrFun run_FnTableOf cb.tail) (fun ins K ht h => sat_FnTableOf Tryd.prog cb ins K ht h.1 h.2)

end Go.Proofs.YtnlgkipjpbdodaaDoor

/- The contracts of the functions. -/
import Derived.Test.YtnlgkipjpbdodaaDoorChecked
import Derived.Test.YtnlgkipjpbdodaaDoorRkAFnFade
import Derived.WalkKit
import Derived.Laws.OwnMore
import Derived.Deep.MidRow
namespace Go.Proofs.YtnlgkipjpbdodaaDoor
open Go Go.Sx Go.RowKit
set_option maxRecDepth 100000

def glb : List (Nat × List Sc) := [(0, [.e (.int .i64 (0)), .e (.int .i64 (0)), .e (.int .i64 (1))]), (1, [.e (.int .i64 (1)), .e (.int .i64 (0)), .e (.int .i64 (1))])]
theorem mixed : Tryd.prog.follows .mixedOrders = true := by kernel_rfl

def sg_size : Sig := { args := [.s (.e (.var 0))], pre := [], tin := [.int .i64], gin := [], res := .c (.s (.e (.var 0))), post := [], tout := [.int .i64], gout := [] }
def cl_size : List (Nat × Sig) := []
theorem run_size : run ⟨Tryd.prog, glb, cl_size⟩ [] Tryd.f107 sg_size (Tryd.f107.body.getD .skip) = tr_size := by kernel_rfl
theorem om_size : ΩOK ⟨Tryd.prog, glb, cl_size⟩ (specsOf Fs_size) := ΩOK_nil
theorem con_size : ConOK Tryd.prog glb 107 sg_size F_size.spec := conOK_tree om_size mixed Tryd.func107 (by kernel_rfl) run_size

def sg_within : Sig := { args := [.s (.e (.var 0)), .s (.e (.var 1)), .s (.e (.var 2))], pre := [], tin := [.int .i64, .int .i64, .int .i64], gin := [], res := .c (.s (.e (.var 0))), post := [], tout := [.bool], gout := [] }
def cl_within : List (Nat × Sig) := []
theorem run_within : run ⟨Tryd.prog, glb, cl_within⟩ [] Tryd.f75 sg_within (Tryd.f75.body.getD .skip) = tr_within := by kernel_rfl
theorem om_within : ΩOK ⟨Tryd.prog, glb, cl_within⟩ (specsOf Fs_within) := ΩOK_nil
theorem con_within : ConOK Tryd.prog glb 75 sg_within F_within.spec := conOK_tree om_within mixed Tryd.func75 (by kernel_rfl) run_within
theorem cong_within : ConOK Tryd.prog glb 75 sg_within G_within.spec := con_within.as as_within

def sg_l6In : Sig := { args := [.s (.e (.var 0)), .s (.e (.var 1)), .s (.e (.var 2))], pre := [], tin := [.int .i64, .int .i64, .int .i64], gin := [], res := .c (.s (.e (.var 0))), post := [], tout := [.bool], gout := [] }
def cl_l6In : List (Nat × Sig) := []
theorem run_l6In : run ⟨Tryd.prog, glb, cl_l6In⟩ [] Tryd.f89 sg_l6In (Tryd.f89.body.getD .skip) = tr_l6In := by kernel_rfl
theorem om_l6In : ΩOK ⟨Tryd.prog, glb, cl_l6In⟩ (specsOf Fs_l6In) := ΩOK_nil
theorem con_l6In : ConOK Tryd.prog glb 89 sg_l6In F_l6In.spec := conOK_tree om_l6In mixed Tryd.func89 (by kernel_rfl) run_l6In
theorem cong_l6In : ConOK Tryd.prog glb 89 sg_l6In G_l6In.spec := con_l6In.as as_l6In

def sg_l2In : Sig := { args := [.s (.e (.var 0))], pre := [], tin := [.int .i64], gin := [], res := .c (.s (.e (.var 0))), post := [], tout := [.bool], gout := [] }
def cl_l2In : List (Nat × Sig) := [(89, sg_l6In)]
theorem run_l2In : run ⟨Tryd.prog, glb, cl_l2In⟩ [] Tryd.f88 sg_l2In (Tryd.f88.body.getD .skip) = tr_l2In := by kernel_rfl
theorem om_l2In : ΩOK ⟨Tryd.prog, glb, cl_l2In⟩ (specsOf Fs_l2In) := (ΩOK_cons cong_l6In Tryd.call89 ΩOK_nil)
theorem con_l2In : ConOK Tryd.prog glb 88 sg_l2In F_l2In.spec := conOK_tree om_l2In mixed Tryd.func88 (by kernel_rfl) run_l2In
theorem cong_l2In : ConOK Tryd.prog glb 88 sg_l2In G_l2In.spec := con_l2In.as as_l2In

def sg_divisor : Sig := { args := [.s (.e (.var 0)), .s (.e (.var 1))], pre := [], tin := [.int .i64, .int .i64], gin := [], res := .c (.s (.e (.var 0))), post := [], tout := [.int .i64], gout := [] }
def cl_divisor : List (Nat × Sig) := []
theorem run_divisor : run ⟨Tryd.prog, glb, cl_divisor⟩ [(0, ⟨[(0, .int .i64), (1, .int .i64)], [], none⟩)] Tryd.f106 sg_divisor (Tryd.f106.body.getD .skip) = tr_divisor := by kernel_rfl
theorem om_divisor : ΩOK ⟨Tryd.prog, glb, cl_divisor⟩ (specsOf Fs_divisor) := ΩOK_nil
theorem con_divisor : ConOK Tryd.prog glb 106 sg_divisor F_divisor.spec := conOK_of om_divisor mixed Tryd.func106 (by kernel_rfl) run_divisor (fun ins K ht h => sat_divisor Tryd.prog ins K ht h.1 h.2)

def sg_l2Gcd : Sig := { args := [.s (.e (.var 0)), .s (.e (.var 1))], pre := [], tin := [.int .i64, .int .i64], gin := [], res := .c (.s (.e (.var 0))), post := [], tout := [.int .i64], gout := [] }
def cl_l2Gcd : List (Nat × Sig) := []
theorem run_l2Gcd : run ⟨Tryd.prog, glb, cl_l2Gcd⟩ [(0, ⟨[(0, .int .i64), (1, .int .i64)], [], none⟩)] Tryd.f90 sg_l2Gcd (Tryd.f90.body.getD .skip) = tr_l2Gcd := by kernel_rfl
theorem om_l2Gcd : ΩOK ⟨Tryd.prog, glb, cl_l2Gcd⟩ (specsOf Fs_l2Gcd) := ΩOK_nil
theorem con_l2Gcd : ConOK Tryd.prog glb 90 sg_l2Gcd F_l2Gcd.spec := conOK_of om_l2Gcd mixed Tryd.func90 (by kernel_rfl) run_l2Gcd (fun ins K ht h => sat_l2Gcd Tryd.prog ins K ht h.1 h.2)

def sg_lowest : Sig := { args := [.s (.e (.var 0)), .s (.e (.var 1)), .s (.e (.var 2))], pre := [], tin := [.int .i64, .int .i64, .int .i64], gin := [], res := .tu [.ag [.e (.var 0), .e (.var 1), .e (.var 2)], .s (.e (.var 3))], post := [], tout := [.int .i64, .int .i64, .int .i64, .bool], gout := [] }
def cl_lowest : List (Nat × Sig) := [(107, sg_size), (106, sg_divisor), (75, sg_within)]
theorem run_lowest : run ⟨Tryd.prog, glb, cl_lowest⟩ [] Tryd.f79 sg_lowest (Tryd.f79.body.getD .skip) = tr_lowest := by kernel_rfl
theorem om_lowest : ΩOK ⟨Tryd.prog, glb, cl_lowest⟩ (specsOf Fs_lowest) := (ΩOK_cons con_size Tryd.call107 (ΩOK_cons con_divisor Tryd.call106 (ΩOK_cons cong_within Tryd.call75 ΩOK_nil)))
theorem con_lowest : ConOK Tryd.prog glb 79 sg_lowest F_lowest.spec := conOK_tree om_lowest mixed Tryd.func79 (by kernel_rfl) run_lowest
theorem cong_lowest : ConOK Tryd.prog glb 79 sg_lowest G_lowest.spec := con_lowest.as as_lowest

def sg_sFracValid : Sig := { args := [.ag [.e (.var 0), .e (.var 1), .e (.var 2)]], pre := [], tin := [.int .i64, .int .i64, .int .i64], gin := [], res := .c (.s (.e (.var 0))), post := [], tout := [.bool], gout := [] }
def cl_sFracValid : List (Nat × Sig) := [(88, sg_l2In), (89, sg_l6In), (90, sg_l2Gcd)]
theorem run_sFracValid : run ⟨Tryd.prog, glb, cl_sFracValid⟩ [] Tryd.f47 sg_sFracValid (Tryd.f47.body.getD .skip) = tr_sFracValid := by kernel_rfl
theorem om_sFracValid : ΩOK ⟨Tryd.prog, glb, cl_sFracValid⟩ (specsOf Fs_sFracValid) := (ΩOK_cons cong_l2In Tryd.call88 (ΩOK_cons cong_l6In Tryd.call89 (ΩOK_cons con_l2Gcd Tryd.call90 ΩOK_nil)))
theorem con_sFracValid : ConOK Tryd.prog glb 47 sg_sFracValid F_sFracValid.spec := conOK_tree om_sFracValid mixed Tryd.func47 (by kernel_rfl) run_sFracValid
theorem cong_sFracValid : ConOK Tryd.prog glb 47 sg_sFracValid G_sFracValid.spec := con_sFracValid.as as_sFracValid

def sg_l2Low : Sig := { args := [.s (.e (.var 0)), .s (.e (.var 1)), .s (.e (.var 2))], pre := [], tin := [.int .i64, .int .i64, .int .i64], gin := [], res := .tu [.ag [.e (.var 0), .e (.var 1), .e (.var 2)], .s (.e (.var 3))], post := [], tout := [.int .i64, .int .i64, .int .i64, .bool], gout := [] }
def cl_l2Low : List (Nat × Sig) := [(90, sg_l2Gcd), (47, sg_sFracValid)]
theorem run_l2Low : run ⟨Tryd.prog, glb, cl_l2Low⟩ [] Tryd.f86 sg_l2Low (Tryd.f86.body.getD .skip) = tr_l2Low := by kernel_rfl
theorem om_l2Low : ΩOK ⟨Tryd.prog, glb, cl_l2Low⟩ (specsOf Fs_l2Low) := (ΩOK_cons con_l2Gcd Tryd.call90 (ΩOK_cons cong_sFracValid Tryd.call47 ΩOK_nil))
theorem con_l2Low : ConOK Tryd.prog glb 86 sg_l2Low F_l2Low.spec := conOK_tree om_l2Low mixed Tryd.func86 (by kernel_rfl) run_l2Low
theorem cong_l2Low : ConOK Tryd.prog glb 86 sg_l2Low G_l2Low.spec := con_l2Low.as as_l2Low

def sg_iFracValid : Sig := { args := [.ag [.e (.var 0), .e (.var 1), .e (.var 2)]], pre := [], tin := [.int .i64, .int .i64, .int .i64], gin := [], res := .c (.s (.e (.var 0))), post := [], tout := [.bool], gout := [] }
def cl_iFracValid : List (Nat × Sig) := [(75, sg_within), (106, sg_divisor), (107, sg_size)]
theorem run_iFracValid : run ⟨Tryd.prog, glb, cl_iFracValid⟩ [] Tryd.f87 sg_iFracValid (Tryd.f87.body.getD .skip) = tr_iFracValid := by kernel_rfl
theorem om_iFracValid : ΩOK ⟨Tryd.prog, glb, cl_iFracValid⟩ (specsOf Fs_iFracValid) := (ΩOK_cons cong_within Tryd.call75 (ΩOK_cons con_divisor Tryd.call106 (ΩOK_cons con_size Tryd.call107 ΩOK_nil)))
theorem con_iFracValid : ConOK Tryd.prog glb 87 sg_iFracValid F_iFracValid.spec := conOK_tree om_iFracValid mixed Tryd.func87 (by kernel_rfl) run_iFracValid
theorem cong_iFracValid : ConOK Tryd.prog glb 87 sg_iFracValid G_iFracValid.spec := con_iFracValid.as as_iFracValid

def sg_realOk : Sig := { args := [.ag [.e (.var 0), .e (.var 1), .e (.var 2)]], pre := [], tin := [.int .i64, .int .i64, .int .i64], gin := [], res := .c (.s (.e (.var 0))), post := [], tout := [.bool], gout := [] }
def cl_realOk : List (Nat × Sig) := [(87, sg_iFracValid)]
theorem run_realOk : run ⟨Tryd.prog, glb, cl_realOk⟩ [] Tryd.f45 sg_realOk (Tryd.f45.body.getD .skip) = tr_realOk := by kernel_rfl
theorem om_realOk : ΩOK ⟨Tryd.prog, glb, cl_realOk⟩ (specsOf Fs_realOk) := (ΩOK_cons cong_iFracValid Tryd.call87 ΩOK_nil)
theorem con_realOk : ConOK Tryd.prog glb 45 sg_realOk F_realOk.spec := conOK_tree om_realOk mixed Tryd.func45 (by kernel_rfl) run_realOk
theorem cong_realOk : ConOK Tryd.prog glb 45 sg_realOk G_realOk.spec := con_realOk.as as_realOk

def sg_iFracAdd : Sig := { args := [.ag [.e (.var 0), .e (.var 1), .e (.var 2)], .ag [.e (.var 3), .e (.var 4), .e (.var 5)]], pre := [], tin := [.int .i64, .int .i64, .int .i64, .int .i64, .int .i64, .int .i64], gin := [], res := .tu [.ag [.e (.var 0), .e (.var 1), .e (.var 2)], .s (.e (.var 3))], post := [], tout := [.int .i64, .int .i64, .int .i64, .bool], gout := [] }
def cl_iFracAdd : List (Nat × Sig) := [(87, sg_iFracValid), (79, sg_lowest)]
theorem run_iFracAdd : run ⟨Tryd.prog, glb, cl_iFracAdd⟩ [] Tryd.f95 sg_iFracAdd (Tryd.f95.body.getD .skip) = tr_iFracAdd := by kernel_rfl
theorem om_iFracAdd : ΩOK ⟨Tryd.prog, glb, cl_iFracAdd⟩ (specsOf Fs_iFracAdd) := (ΩOK_cons cong_iFracValid Tryd.call87 (ΩOK_cons cong_lowest Tryd.call79 ΩOK_nil))
theorem con_iFracAdd : ConOK Tryd.prog glb 95 sg_iFracAdd F_iFracAdd.spec := conOK_tree om_iFracAdd mixed Tryd.func95 (by kernel_rfl) run_iFracAdd
theorem cong_iFracAdd : ConOK Tryd.prog glb 95 sg_iFracAdd G_iFracAdd.spec := con_iFracAdd.as as_iFracAdd

def sg_iFracTimes : Sig := { args := [.ag [.e (.var 0), .e (.var 1), .e (.var 2)], .ag [.e (.var 3), .e (.var 4), .e (.var 5)]], pre := [], tin := [.int .i64, .int .i64, .int .i64, .int .i64, .int .i64, .int .i64], gin := [], res := .tu [.ag [.e (.var 0), .e (.var 1), .e (.var 2)], .s (.e (.var 3))], post := [], tout := [.int .i64, .int .i64, .int .i64, .bool], gout := [] }
def cl_iFracTimes : List (Nat × Sig) := [(87, sg_iFracValid), (79, sg_lowest)]
theorem run_iFracTimes : run ⟨Tryd.prog, glb, cl_iFracTimes⟩ [] Tryd.f93 sg_iFracTimes (Tryd.f93.body.getD .skip) = tr_iFracTimes := by kernel_rfl
theorem om_iFracTimes : ΩOK ⟨Tryd.prog, glb, cl_iFracTimes⟩ (specsOf Fs_iFracTimes) := (ΩOK_cons cong_iFracValid Tryd.call87 (ΩOK_cons cong_lowest Tryd.call79 ΩOK_nil))
theorem con_iFracTimes : ConOK Tryd.prog glb 93 sg_iFracTimes F_iFracTimes.spec := conOK_tree om_iFracTimes mixed Tryd.func93 (by kernel_rfl) run_iFracTimes
theorem cong_iFracTimes : ConOK Tryd.prog glb 93 sg_iFracTimes G_iFracTimes.spec := con_iFracTimes.as as_iFracTimes

def sg_keep : Sig := { args := [.s (.p (.own 0) 0), .ag [.e (.var 0), .e (.var 1), .e (.var 2)], .s (.e (.var 3))], pre := [⟨[.e (.var 4)], 84⟩], tin := [.int .i64, .int .i64, .int .i64, .bool, .bool], gin := [], res := .c (.ag [.e (.var 0), .e (.var 1), .e (.var 2)]), post := [⟨[.e (.var 3)], 84⟩], tout := [.int .i64, .int .i64, .int .i64, .bool], gout := [] }
def cl_keep : List (Nat × Sig) := []
theorem run_keep : run ⟨Tryd.prog, glb, cl_keep⟩ [] Tryd.f91 sg_keep (Tryd.f91.body.getD .skip) = tr_keep := by kernel_rfl
theorem om_keep : ΩOK ⟨Tryd.prog, glb, cl_keep⟩ (specsOf Fs_keep) := ΩOK_nil
theorem con_keep : ConOK Tryd.prog glb 91 sg_keep F_keep.spec := conOK_tree om_keep mixed Tryd.func91 (by kernel_rfl) run_keep

def sg_add : Sig := { args := [.s (.p (.own 0) 0), .ag [.e (.var 0), .e (.var 1), .e (.var 2)], .ag [.e (.var 3), .e (.var 4), .e (.var 5)]], pre := [⟨[.e (.var 6)], 84⟩], tin := [.int .i64, .int .i64, .int .i64, .int .i64, .int .i64, .int .i64, .bool], gin := [], res := .c (.ag [.e (.var 0), .e (.var 1), .e (.var 2)]), post := [⟨[.e (.var 3)], 84⟩], tout := [.int .i64, .int .i64, .int .i64, .bool], gout := [] }
def cl_add : List (Nat × Sig) := [(95, sg_iFracAdd), (91, sg_keep)]
theorem run_add : run ⟨Tryd.prog, glb, cl_add⟩ [] Tryd.f56 sg_add (Tryd.f56.body.getD .skip) = tr_add := by kernel_rfl
theorem om_add : ΩOK ⟨Tryd.prog, glb, cl_add⟩ (specsOf Fs_add) := (ΩOK_cons cong_iFracAdd Tryd.call95 (ΩOK_cons con_keep Tryd.call91 ΩOK_nil))
theorem con_add : ConOK Tryd.prog glb 56 sg_add F_add.spec := conOK_tree om_add mixed Tryd.func56 (by kernel_rfl) run_add
theorem cong_add : ConOK Tryd.prog glb 56 sg_add G_add.spec := con_add.as as_add

def sg_times : Sig := { args := [.s (.p (.own 0) 0), .ag [.e (.var 0), .e (.var 1), .e (.var 2)], .ag [.e (.var 3), .e (.var 4), .e (.var 5)]], pre := [⟨[.e (.var 6)], 84⟩], tin := [.int .i64, .int .i64, .int .i64, .int .i64, .int .i64, .int .i64, .bool], gin := [], res := .c (.ag [.e (.var 0), .e (.var 1), .e (.var 2)]), post := [⟨[.e (.var 3)], 84⟩], tout := [.int .i64, .int .i64, .int .i64, .bool], gout := [] }
def cl_times : List (Nat × Sig) := [(93, sg_iFracTimes), (91, sg_keep)]
theorem run_times : run ⟨Tryd.prog, glb, cl_times⟩ [] Tryd.f52 sg_times (Tryd.f52.body.getD .skip) = tr_times := by kernel_rfl
theorem om_times : ΩOK ⟨Tryd.prog, glb, cl_times⟩ (specsOf Fs_times) := (ΩOK_cons cong_iFracTimes Tryd.call93 (ΩOK_cons con_keep Tryd.call91 ΩOK_nil))
theorem con_times : ConOK Tryd.prog glb 52 sg_times F_times.spec := conOK_tree om_times mixed Tryd.func52 (by kernel_rfl) run_times
theorem cong_times : ConOK Tryd.prog glb 52 sg_times G_times.spec := con_times.as as_times

def sg_need : Sig := { args := [.s (.p (.own 0) 0), .s (.e (.var 0))], pre := [⟨[.e (.var 1)], 84⟩], tin := [.bool, .bool], gin := [], res := .c (.s (.p (.own 0) 0)), post := [⟨[.e (.var 0)], 84⟩], tout := [.bool], gout := [] }
def cl_need : List (Nat × Sig) := []
theorem run_need : run ⟨Tryd.prog, glb, cl_need⟩ [] Tryd.f49 sg_need (Tryd.f49.body.getD .skip) = tr_need := by kernel_rfl
theorem om_need : ΩOK ⟨Tryd.prog, glb, cl_need⟩ (specsOf Fs_need) := ΩOK_nil
theorem con_need : ConOK Tryd.prog glb 49 sg_need F_need.spec := conOK_tree om_need mixed Tryd.func49 (by kernel_rfl) run_need
theorem cong_need : ConOK Tryd.prog glb 49 sg_need G_need.spec := con_need.as as_need

def sg_iTableValid : Sig := { args := [.ag [.e (.var 0), .e (.var 1), .e (.var 2), .e (.var 3), .e (.var 4), .e (.var 5), .e (.var 6), .e (.var 7), .e (.var 8), .e (.var 9), .e (.var 10), .e (.var 11), .e (.var 12), .e (.var 13), .e (.var 14), .e (.var 15), .e (.var 16), .e (.var 17), .e (.var 18), .e (.var 19), .e (.var 20), .e (.var 21), .e (.var 22), .e (.var 23), .e (.var 24), .e (.var 25), .e (.var 26), .e (.var 27), .e (.var 28), .e (.var 29), .e (.var 30), .e (.var 31), .e (.var 32), .e (.var 33), .e (.var 34), .e (.var 35), .e (.var 36), .e (.var 37), .e (.var 38), .e (.var 39), .e (.var 40), .e (.var 41), .e (.var 42), .e (.var 43), .e (.var 44), .e (.var 45), .e (.var 46), .e (.var 47)]], pre := [], tin := [.int .i64, .int .i64, .int .i64, .int .i64, .int .i64, .int .i64, .int .i64, .int .i64, .int .i64, .int .i64, .int .i64, .int .i64, .int .i64, .int .i64, .int .i64, .int .i64, .int .i64, .int .i64, .int .i64, .int .i64, .int .i64, .int .i64, .int .i64, .int .i64, .int .i64, .int .i64, .int .i64, .int .i64, .int .i64, .int .i64, .int .i64, .int .i64, .int .i64, .int .i64, .int .i64, .int .i64, .int .i64, .int .i64, .int .i64, .int .i64, .int .i64, .int .i64, .int .i64, .int .i64, .int .i64, .int .i64, .int .i64, .int .i64], gin := [], res := .c (.s (.e (.var 0))), post := [], tout := [.bool], gout := [] }
def cl_iTableValid : List (Nat × Sig) := [(45, sg_realOk)]
theorem run_iTableValid : run ⟨Tryd.prog, glb, cl_iTableValid⟩ [] Tryd.f29 sg_iTableValid (Tryd.f29.body.getD .skip) = tr_iTableValid := by kernel_rfl
theorem om_iTableValid : ΩOK ⟨Tryd.prog, glb, cl_iTableValid⟩ (specsOf Fs_iTableValid) := (ΩOK_cons cong_realOk Tryd.call45 ΩOK_nil)
theorem con_iTableValid : ConOK Tryd.prog glb 29 sg_iTableValid F_iTableValid.spec := conOK_tree om_iTableValid mixed Tryd.func29 (by kernel_rfl) run_iTableValid
theorem cong_iTableValid : ConOK Tryd.prog glb 29 sg_iTableValid G_iTableValid.spec := con_iTableValid.as as_iTableValid

def sg_gotStokes : Sig := { args := [.s (.p (.own 0) 0), .ag [.e (.var 0), .e (.var 1), .e (.var 2), .e (.var 3), .e (.var 4), .e (.var 5), .e (.var 6), .e (.var 7), .e (.var 8), .e (.var 9), .e (.var 10), .e (.var 11)]], pre := [⟨[.e (.var 12)], 84⟩], tin := [.int .i64, .int .i64, .int .i64, .int .i64, .int .i64, .int .i64, .int .i64, .int .i64, .int .i64, .int .i64, .int .i64, .int .i64, .bool], gin := [], res := .tu [.ag [.e (.var 0), .e (.var 1), .e (.var 2), .e (.var 3), .e (.var 4), .e (.var 5), .e (.var 6), .e (.var 7), .e (.var 8), .e (.var 9), .e (.var 10), .e (.var 11)], .s (.e (.var 12))], post := [⟨[.e (.var 13)], 84⟩], tout := [.int .i64, .int .i64, .int .i64, .int .i64, .int .i64, .int .i64, .int .i64, .int .i64, .int .i64, .int .i64, .int .i64, .int .i64, .bool, .bool], gout := [] }
def cl_gotStokes : List (Nat × Sig) := []
theorem run_gotStokes : run ⟨Tryd.prog, glb, cl_gotStokes⟩ [] Tryd.f55 sg_gotStokes (Tryd.f55.body.getD .skip) = tr_gotStokes := by kernel_rfl
theorem om_gotStokes : ΩOK ⟨Tryd.prog, glb, cl_gotStokes⟩ (specsOf Fs_gotStokes) := ΩOK_nil
theorem con_gotStokes : ConOK Tryd.prog glb 55 sg_gotStokes F_gotStokes.spec := conOK_tree om_gotStokes mixed Tryd.func55 (by kernel_rfl) run_gotStokes
theorem cong_gotStokes : ConOK Tryd.prog glb 55 sg_gotStokes G_gotStokes.spec := con_gotStokes.as as_gotStokes

def sg_iStokesValid : Sig := { args := [.ag [.e (.var 0), .e (.var 1), .e (.var 2), .e (.var 3), .e (.var 4), .e (.var 5), .e (.var 6), .e (.var 7), .e (.var 8), .e (.var 9), .e (.var 10), .e (.var 11)]], pre := [], tin := [.int .i64, .int .i64, .int .i64, .int .i64, .int .i64, .int .i64, .int .i64, .int .i64, .int .i64, .int .i64, .int .i64, .int .i64], gin := [], res := .c (.s (.e (.var 0))), post := [], tout := [.bool], gout := [] }
def cl_iStokesValid : List (Nat × Sig) := [(45, sg_realOk)]
theorem run_iStokesValid : run ⟨Tryd.prog, glb, cl_iStokesValid⟩ [] Tryd.f60 sg_iStokesValid (Tryd.f60.body.getD .skip) = tr_iStokesValid := by kernel_rfl
theorem om_iStokesValid : ΩOK ⟨Tryd.prog, glb, cl_iStokesValid⟩ (specsOf Fs_iStokesValid) := (ΩOK_cons cong_realOk Tryd.call45 ΩOK_nil)
theorem con_iStokesValid : ConOK Tryd.prog glb 60 sg_iStokesValid F_iStokesValid.spec := conOK_tree om_iStokesValid mixed Tryd.func60 (by kernel_rfl) run_iStokesValid
theorem cong_iStokesValid : ConOK Tryd.prog glb 60 sg_iStokesValid G_iStokesValid.spec := con_iStokesValid.as as_iStokesValid

def sg_iTableApply : Sig := { args := [.ag [.e (.var 0), .e (.var 1), .e (.var 2), .e (.var 3), .e (.var 4), .e (.var 5), .e (.var 6), .e (.var 7), .e (.var 8), .e (.var 9), .e (.var 10), .e (.var 11), .e (.var 12), .e (.var 13), .e (.var 14), .e (.var 15), .e (.var 16), .e (.var 17), .e (.var 18), .e (.var 19), .e (.var 20), .e (.var 21), .e (.var 22), .e (.var 23), .e (.var 24), .e (.var 25), .e (.var 26), .e (.var 27), .e (.var 28), .e (.var 29), .e (.var 30), .e (.var 31), .e (.var 32), .e (.var 33), .e (.var 34), .e (.var 35), .e (.var 36), .e (.var 37), .e (.var 38), .e (.var 39), .e (.var 40), .e (.var 41), .e (.var 42), .e (.var 43), .e (.var 44), .e (.var 45), .e (.var 46), .e (.var 47)], .ag [.e (.var 48), .e (.var 49), .e (.var 50), .e (.var 51), .e (.var 52), .e (.var 53), .e (.var 54), .e (.var 55), .e (.var 56), .e (.var 57), .e (.var 58), .e (.var 59)]], pre := [], tin := [.int .i64, .int .i64, .int .i64, .int .i64, .int .i64, .int .i64, .int .i64, .int .i64, .int .i64, .int .i64, .int .i64, .int .i64, .int .i64, .int .i64, .int .i64, .int .i64, .int .i64, .int .i64, .int .i64, .int .i64, .int .i64, .int .i64, .int .i64, .int .i64, .int .i64, .int .i64, .int .i64, .int .i64, .int .i64, .int .i64, .int .i64, .int .i64, .int .i64, .int .i64, .int .i64, .int .i64, .int .i64, .int .i64, .int .i64, .int .i64, .int .i64, .int .i64, .int .i64, .int .i64, .int .i64, .int .i64, .int .i64, .int .i64, .int .i64, .int .i64, .int .i64, .int .i64, .int .i64, .int .i64, .int .i64, .int .i64, .int .i64, .int .i64, .int .i64, .int .i64], gin := [], res := .tu [.ag [.e (.var 0), .e (.var 1), .e (.var 2), .e (.var 3), .e (.var 4), .e (.var 5), .e (.var 6), .e (.var 7), .e (.var 8), .e (.var 9), .e (.var 10), .e (.var 11)], .s (.e (.var 12))], post := [], tout := [.int .i64, .int .i64, .int .i64, .int .i64, .int .i64, .int .i64, .int .i64, .int .i64, .int .i64, .int .i64, .int .i64, .int .i64, .bool], gout := [] }
def cl_iTableApply : List (Nat × Sig) := [(29, sg_iTableValid), (60, sg_iStokesValid), (49, sg_need), (52, sg_times), (56, sg_add), (55, sg_gotStokes)]
theorem run_iTableApply : run ⟨Tryd.prog, glb, cl_iTableApply⟩ [] Tryd.f18 sg_iTableApply (Tryd.f18.body.getD .skip) = tr_iTableApply := by kernel_rfl
theorem om_iTableApply : ΩOK ⟨Tryd.prog, glb, cl_iTableApply⟩ (specsOf Fs_iTableApply) := (ΩOK_cons cong_iTableValid Tryd.call29 (ΩOK_cons cong_iStokesValid Tryd.call60 (ΩOK_cons cong_need Tryd.call49 (ΩOK_cons cong_times Tryd.call52 (ΩOK_cons cong_add Tryd.call56 (ΩOK_cons cong_gotStokes Tryd.call55 ΩOK_nil))))))
theorem con_iTableApply : ConOK Tryd.prog glb 18 sg_iTableApply F_iTableApply.spec := conOK_tree om_iTableApply mixed Tryd.func18 (by kernel_rfl) run_iTableApply
theorem cong_iTableApply : ConOK Tryd.prog glb 18 sg_iTableApply G_iTableApply.spec := con_iTableApply.as as_iTableApply

def sg_iFracLess : Sig := { args := [.ag [.e (.var 0), .e (.var 1), .e (.var 2)], .ag [.e (.var 3), .e (.var 4), .e (.var 5)]], pre := [], tin := [.int .i64, .int .i64, .int .i64, .int .i64, .int .i64, .int .i64], gin := [], res := .tu [.ag [.e (.var 0), .e (.var 1), .e (.var 2)], .s (.e (.var 3))], post := [], tout := [.int .i64, .int .i64, .int .i64, .bool], gout := [] }
def cl_iFracLess : List (Nat × Sig) := [(87, sg_iFracValid), (79, sg_lowest)]
theorem run_iFracLess : run ⟨Tryd.prog, glb, cl_iFracLess⟩ [] Tryd.f96 sg_iFracLess (Tryd.f96.body.getD .skip) = tr_iFracLess := by kernel_rfl
theorem om_iFracLess : ΩOK ⟨Tryd.prog, glb, cl_iFracLess⟩ (specsOf Fs_iFracLess) := (ΩOK_cons cong_iFracValid Tryd.call87 (ΩOK_cons cong_lowest Tryd.call79 ΩOK_nil))
theorem con_iFracLess : ConOK Tryd.prog glb 96 sg_iFracLess F_iFracLess.spec := conOK_tree om_iFracLess mixed Tryd.func96 (by kernel_rfl) run_iFracLess
theorem cong_iFracLess : ConOK Tryd.prog glb 96 sg_iFracLess G_iFracLess.spec := con_iFracLess.as as_iFracLess

def sg_iFracMirror : Sig := { args := [.ag [.e (.var 0), .e (.var 1), .e (.var 2)]], pre := [], tin := [.int .i64, .int .i64, .int .i64], gin := [], res := .tu [.ag [.e (.var 0), .e (.var 1), .e (.var 2)], .s (.e (.var 3))], post := [], tout := [.int .i64, .int .i64, .int .i64, .bool], gout := [] }
def cl_iFracMirror : List (Nat × Sig) := [(87, sg_iFracValid)]
theorem run_iFracMirror : run ⟨Tryd.prog, glb, cl_iFracMirror⟩ [] Tryd.f94 sg_iFracMirror (Tryd.f94.body.getD .skip) = tr_iFracMirror := by kernel_rfl
theorem om_iFracMirror : ΩOK ⟨Tryd.prog, glb, cl_iFracMirror⟩ (specsOf Fs_iFracMirror) := (ΩOK_cons cong_iFracValid Tryd.call87 ΩOK_nil)
theorem con_iFracMirror : ConOK Tryd.prog glb 94 sg_iFracMirror F_iFracMirror.spec := conOK_tree om_iFracMirror mixed Tryd.func94 (by kernel_rfl) run_iFracMirror
theorem cong_iFracMirror : ConOK Tryd.prog glb 94 sg_iFracMirror G_iFracMirror.spec := con_iFracMirror.as as_iFracMirror

def sg_iFracPower : Sig := { args := [.ag [.e (.var 0), .e (.var 1), .e (.var 2)]], pre := [], tin := [.int .i64, .int .i64, .int .i64], gin := [], res := .tu [.ag [.e (.var 0), .e (.var 1), .e (.var 2)], .s (.e (.var 3))], post := [], tout := [.int .i64, .int .i64, .int .i64, .bool], gout := [] }
def cl_iFracPower : List (Nat × Sig) := [(87, sg_iFracValid), (79, sg_lowest)]
theorem run_iFracPower : run ⟨Tryd.prog, glb, cl_iFracPower⟩ [] Tryd.f92 sg_iFracPower (Tryd.f92.body.getD .skip) = tr_iFracPower := by kernel_rfl
theorem om_iFracPower : ΩOK ⟨Tryd.prog, glb, cl_iFracPower⟩ (specsOf Fs_iFracPower) := (ΩOK_cons cong_iFracValid Tryd.call87 (ΩOK_cons cong_lowest Tryd.call79 ΩOK_nil))
theorem con_iFracPower : ConOK Tryd.prog glb 92 sg_iFracPower F_iFracPower.spec := conOK_tree om_iFracPower mixed Tryd.func92 (by kernel_rfl) run_iFracPower
theorem cong_iFracPower : ConOK Tryd.prog glb 92 sg_iFracPower G_iFracPower.spec := con_iFracPower.as as_iFracPower

def sg_whole2 : Sig := { args := [.s (.e (.int .i64 (2)))], pre := [], tin := [], gin := [], res := .c (.ag [.e (.int .i64 (2)), .e (.int .i64 (0)), .e (.int .i64 (1))]), post := [], tout := [], gout := [] }
def cl_whole2 : List (Nat × Sig) := []
theorem run_whole2 : run ⟨Tryd.prog, glb, cl_whole2⟩ [] Tryd.f54 sg_whole2 (Tryd.f54.body.getD .skip) = tr_whole2 := by kernel_rfl
theorem om_whole2 : ΩOK ⟨Tryd.prog, glb, cl_whole2⟩ (specsOf Fs_whole2) := ΩOK_nil
theorem con_whole2 : ConOK Tryd.prog glb 54 sg_whole2 F_whole2.spec := conOK_tree om_whole2 mixed Tryd.func54 (by kernel_rfl) run_whole2

def sg_less : Sig := { args := [.s (.p (.own 0) 0), .ag [.e (.var 0), .e (.var 1), .e (.var 2)], .ag [.e (.var 3), .e (.var 4), .e (.var 5)]], pre := [⟨[.e (.var 6)], 84⟩], tin := [.int .i64, .int .i64, .int .i64, .int .i64, .int .i64, .int .i64, .bool], gin := [], res := .c (.ag [.e (.var 0), .e (.var 1), .e (.var 2)]), post := [⟨[.e (.var 3)], 84⟩], tout := [.int .i64, .int .i64, .int .i64, .bool], gout := [] }
def cl_less : List (Nat × Sig) := [(96, sg_iFracLess), (91, sg_keep)]
theorem run_less : run ⟨Tryd.prog, glb, cl_less⟩ [] Tryd.f57 sg_less (Tryd.f57.body.getD .skip) = tr_less := by kernel_rfl
theorem om_less : ΩOK ⟨Tryd.prog, glb, cl_less⟩ (specsOf Fs_less) := (ΩOK_cons cong_iFracLess Tryd.call96 (ΩOK_cons con_keep Tryd.call91 ΩOK_nil))
theorem con_less : ConOK Tryd.prog glb 57 sg_less F_less.spec := conOK_tree om_less mixed Tryd.func57 (by kernel_rfl) run_less
theorem cong_less : ConOK Tryd.prog glb 57 sg_less G_less.spec := con_less.as as_less

def sg_mirror : Sig := { args := [.s (.p (.own 0) 0), .ag [.e (.var 0), .e (.var 1), .e (.var 2)]], pre := [⟨[.e (.var 3)], 84⟩], tin := [.int .i64, .int .i64, .int .i64, .bool], gin := [], res := .c (.ag [.e (.var 0), .e (.var 1), .e (.var 2)]), post := [⟨[.e (.var 3)], 84⟩], tout := [.int .i64, .int .i64, .int .i64, .bool], gout := [] }
def cl_mirror : List (Nat × Sig) := [(94, sg_iFracMirror), (91, sg_keep)]
theorem run_mirror : run ⟨Tryd.prog, glb, cl_mirror⟩ [] Tryd.f53 sg_mirror (Tryd.f53.body.getD .skip) = tr_mirror := by kernel_rfl
theorem om_mirror : ΩOK ⟨Tryd.prog, glb, cl_mirror⟩ (specsOf Fs_mirror) := (ΩOK_cons cong_iFracMirror Tryd.call94 (ΩOK_cons con_keep Tryd.call91 ΩOK_nil))
theorem con_mirror : ConOK Tryd.prog glb 53 sg_mirror F_mirror.spec := conOK_tree om_mirror mixed Tryd.func53 (by kernel_rfl) run_mirror
theorem cong_mirror : ConOK Tryd.prog glb 53 sg_mirror G_mirror.spec := con_mirror.as as_mirror

def sg_power : Sig := { args := [.s (.p (.own 0) 0), .ag [.e (.var 0), .e (.var 1), .e (.var 2)]], pre := [⟨[.e (.var 3)], 84⟩], tin := [.int .i64, .int .i64, .int .i64, .bool], gin := [], res := .c (.ag [.e (.var 0), .e (.var 1), .e (.var 2)]), post := [⟨[.e (.var 3)], 84⟩], tout := [.int .i64, .int .i64, .int .i64, .bool], gout := [] }
def cl_power : List (Nat × Sig) := [(92, sg_iFracPower), (91, sg_keep)]
theorem run_power : run ⟨Tryd.prog, glb, cl_power⟩ [] Tryd.f51 sg_power (Tryd.f51.body.getD .skip) = tr_power := by kernel_rfl
theorem om_power : ΩOK ⟨Tryd.prog, glb, cl_power⟩ (specsOf Fs_power) := (ΩOK_cons cong_iFracPower Tryd.call92 (ΩOK_cons con_keep Tryd.call91 ΩOK_nil))
theorem con_power : ConOK Tryd.prog glb 51 sg_power F_power.spec := conOK_tree om_power mixed Tryd.func51 (by kernel_rfl) run_power
theorem cong_power : ConOK Tryd.prog glb 51 sg_power G_power.spec := con_power.as as_power

def sg_real : Sig := { args := [.s (.p (.own 0) 0), .ag [.e (.var 0), .e (.var 1), .e (.var 2)]], pre := [⟨[.e (.var 3)], 84⟩], tin := [.int .i64, .int .i64, .int .i64, .bool], gin := [], res := .c (.ag [.e (.var 0), .e (.var 1), .e (.var 2)]), post := [⟨[.e (.var 3)], 84⟩], tout := [.int .i64, .int .i64, .int .i64, .bool], gout := [] }
def cl_real : List (Nat × Sig) := [(87, sg_iFracValid), (79, sg_lowest), (91, sg_keep)]
theorem run_real : run ⟨Tryd.prog, glb, cl_real⟩ [] Tryd.f58 sg_real (Tryd.f58.body.getD .skip) = tr_real := by kernel_rfl
theorem om_real : ΩOK ⟨Tryd.prog, glb, cl_real⟩ (specsOf Fs_real) := (ΩOK_cons cong_iFracValid Tryd.call87 (ΩOK_cons cong_lowest Tryd.call79 (ΩOK_cons con_keep Tryd.call91 ΩOK_nil)))
theorem con_real : ConOK Tryd.prog glb 58 sg_real F_real.spec := conOK_tree om_real mixed Tryd.func58 (by kernel_rfl) run_real
theorem cong_real : ConOK Tryd.prog glb 58 sg_real G_real.spec := con_real.as as_real

def sg_imag : Sig := { args := [.s (.p (.own 0) 0), .ag [.e (.var 0), .e (.var 1), .e (.var 2)]], pre := [⟨[.e (.var 3)], 84⟩], tin := [.int .i64, .int .i64, .int .i64, .bool], gin := [], res := .c (.ag [.e (.var 0), .e (.var 1), .e (.var 2)]), post := [⟨[.e (.var 3)], 84⟩], tout := [.int .i64, .int .i64, .int .i64, .bool], gout := [] }
def cl_imag : List (Nat × Sig) := [(87, sg_iFracValid), (79, sg_lowest), (91, sg_keep)]
theorem run_imag : run ⟨Tryd.prog, glb, cl_imag⟩ [] Tryd.f59 sg_imag (Tryd.f59.body.getD .skip) = tr_imag := by kernel_rfl
theorem om_imag : ΩOK ⟨Tryd.prog, glb, cl_imag⟩ (specsOf Fs_imag) := (ΩOK_cons cong_iFracValid Tryd.call87 (ΩOK_cons cong_lowest Tryd.call79 (ΩOK_cons con_keep Tryd.call91 ΩOK_nil)))
theorem con_imag : ConOK Tryd.prog glb 59 sg_imag F_imag.spec := conOK_tree om_imag mixed Tryd.func59 (by kernel_rfl) run_imag
theorem cong_imag : ConOK Tryd.prog glb 59 sg_imag G_imag.spec := con_imag.as as_imag

def sg_wholeM : Sig := { args := [.s (.e (.int .i64 (-1)))], pre := [], tin := [], gin := [], res := .c (.ag [.e (.int .i64 (-1)), .e (.int .i64 (0)), .e (.int .i64 (1))]), post := [], tout := [], gout := [] }
def cl_wholeM : List (Nat × Sig) := []
theorem run_wholeM : run ⟨Tryd.prog, glb, cl_wholeM⟩ [] Tryd.f54 sg_wholeM (Tryd.f54.body.getD .skip) = tr_wholeM := by kernel_rfl
theorem om_wholeM : ΩOK ⟨Tryd.prog, glb, cl_wholeM⟩ (specsOf Fs_wholeM) := ΩOK_nil
theorem con_wholeM : ConOK Tryd.prog glb 54 sg_wholeM F_wholeM.spec := conOK_tree om_wholeM mixed Tryd.func54 (by kernel_rfl) run_wholeM

def sg_gotFrac : Sig := { args := [.s (.p (.own 0) 0), .ag [.e (.var 0), .e (.var 1), .e (.var 2)]], pre := [⟨[.e (.var 3)], 84⟩], tin := [.int .i64, .int .i64, .int .i64, .bool], gin := [], res := .tu [.ag [.e (.var 0), .e (.var 1), .e (.var 2)], .s (.e (.var 3))], post := [⟨[.e (.var 4)], 84⟩], tout := [.int .i64, .int .i64, .int .i64, .bool, .bool], gout := [] }
def cl_gotFrac : List (Nat × Sig) := []
theorem run_gotFrac : run ⟨Tryd.prog, glb, cl_gotFrac⟩ [] Tryd.f61 sg_gotFrac (Tryd.f61.body.getD .skip) = tr_gotFrac := by kernel_rfl
theorem om_gotFrac : ΩOK ⟨Tryd.prog, glb, cl_gotFrac⟩ (specsOf Fs_gotFrac) := ΩOK_nil
theorem con_gotFrac : ConOK Tryd.prog glb 61 sg_gotFrac F_gotFrac.spec := conOK_tree om_gotFrac mixed Tryd.func61 (by kernel_rfl) run_gotFrac
theorem cong_gotFrac : ConOK Tryd.prog glb 61 sg_gotFrac G_gotFrac.spec := con_gotFrac.as as_gotFrac

def sg_iJonesValid : Sig := { args := [.ag [.e (.var 0), .e (.var 1), .e (.var 2), .e (.var 3), .e (.var 4), .e (.var 5)]], pre := [], tin := [.int .i64, .int .i64, .int .i64, .int .i64, .int .i64, .int .i64], gin := [], res := .c (.s (.e (.var 0))), post := [], tout := [.bool], gout := [] }
def cl_iJonesValid : List (Nat × Sig) := [(87, sg_iFracValid)]
theorem run_iJonesValid : run ⟨Tryd.prog, glb, cl_iJonesValid⟩ [] Tryd.f50 sg_iJonesValid (Tryd.f50.body.getD .skip) = tr_iJonesValid := by kernel_rfl
theorem om_iJonesValid : ΩOK ⟨Tryd.prog, glb, cl_iJonesValid⟩ (specsOf Fs_iJonesValid) := (ΩOK_cons cong_iFracValid Tryd.call87 ΩOK_nil)
theorem con_iJonesValid : ConOK Tryd.prog glb 50 sg_iJonesValid F_iJonesValid.spec := conOK_tree om_iJonesValid mixed Tryd.func50 (by kernel_rfl) run_iJonesValid
theorem cong_iJonesValid : ConOK Tryd.prog glb 50 sg_iJonesValid G_iJonesValid.spec := con_iJonesValid.as as_iJonesValid

def sg_pick : Sig := { args := [.s (.p (.own 0) 0), .s (.e (.var 0))], pre := [⟨[.e (.var 1), .e (.var 2)], 113⟩], tin := [.int .i64, .sl, .int .i64, .row .u8 1], gin := [(1, 3, 1)], res := .c (.s (.e (.var 0))), post := [⟨[.e (.var 1), .e (.var 2)], 113⟩], tout := [.int .i64, .sl, .int .i64], gout := [] }
def cl_pick : List (Nat × Sig) := []
theorem run_pick : run ⟨Tryd.prog, glb, cl_pick⟩ [] Tryd.f85 sg_pick (Tryd.f85.body.getD .skip) = tr_pick := by kernel_rfl
theorem om_pick : ΩOK ⟨Tryd.prog, glb, cl_pick⟩ (specsOf Fs_pick) := ΩOK_nil
theorem con_pick : ConOK Tryd.prog glb 85 sg_pick F_pick.spec := conOK_tree om_pick mixed Tryd.func85 (by kernel_rfl) run_pick

def sg_l6tDiag : Sig := { args := [.ag [.e (.var 0), .e (.var 1), .e (.var 2)]], pre := [], tin := [.int .i64, .int .i64, .int .i64], gin := [], res := .c (.ag [.e (.var 0), .e (.var 1), .e (.var 2), .e (.var 3), .e (.var 4), .e (.var 5), .e (.var 6), .e (.var 7), .e (.var 8), .e (.var 9), .e (.var 10), .e (.var 11), .e (.var 12), .e (.var 13), .e (.var 14), .e (.var 15), .e (.var 16), .e (.var 17), .e (.var 18), .e (.var 19), .e (.var 20), .e (.var 21), .e (.var 22), .e (.var 23), .e (.var 24), .e (.var 25), .e (.var 26), .e (.var 27), .e (.var 28), .e (.var 29), .e (.var 30), .e (.var 31), .e (.var 32), .e (.var 33), .e (.var 34), .e (.var 35), .e (.var 36), .e (.var 37), .e (.var 38), .e (.var 39), .e (.var 40), .e (.var 41), .e (.var 42), .e (.var 43), .e (.var 44), .e (.var 45), .e (.var 46), .e (.var 47)]), post := [], tout := [.int .i64, .int .i64, .int .i64, .int .i64, .int .i64, .int .i64, .int .i64, .int .i64, .int .i64, .int .i64, .int .i64, .int .i64, .int .i64, .int .i64, .int .i64, .int .i64, .int .i64, .int .i64, .int .i64, .int .i64, .int .i64, .int .i64, .int .i64, .int .i64, .int .i64, .int .i64, .int .i64, .int .i64, .int .i64, .int .i64, .int .i64, .int .i64, .int .i64, .int .i64, .int .i64, .int .i64, .int .i64, .int .i64, .int .i64, .int .i64, .int .i64, .int .i64, .int .i64, .int .i64, .int .i64, .int .i64, .int .i64, .int .i64], gout := [] }
def cl_l6tDiag : List (Nat × Sig) := []
theorem run_l6tDiag : run ⟨Tryd.prog, glb, cl_l6tDiag⟩ [] Tryd.f48 sg_l6tDiag (Tryd.f48.body.getD .skip) = tr_l6tDiag := by kernel_rfl
theorem om_l6tDiag : ΩOK ⟨Tryd.prog, glb, cl_l6tDiag⟩ (specsOf Fs_l6tDiag) := ΩOK_nil
theorem con_l6tDiag : ConOK Tryd.prog glb 48 sg_l6tDiag F_l6tDiag.spec := conOK_tree om_l6tDiag mixed Tryd.func48 (by kernel_rfl) run_l6tDiag

def sg_pickC : Sig := { args := [.s (.p (.own 0) 0), .s (.e (.var 0))], pre := [⟨[.e (.var 1), .e (.var 2)], 113⟩], tin := [.int .i64, .sl, .int .i64], gin := [], res := .c (.s (.e (.var 0))), post := [⟨[.e (.var 1), .e (.var 2)], 113⟩], tout := [.int .i64, .sl, .int .i64], gout := [] }
theorem con_pickC {cb : CodeB} (hk : CodeOk cb) (hG : Known cb (glb ++ cb.tail)) : ConOK Tryd.prog (glb ++ cb.tail) 85 sg_pickC (G_pick cb).spec := conOK_ghost (t := 113) hk hG con_pick.more (ghost_pick hk)


def sg_openC : Sig := { args := [.s (.e (.var 0))], pre := [], tin := [.sl], gin := [], res := .c (.s (.p (.own 0) 0)), post := [⟨[.e (.var 0), .e (.var 1)], 113⟩], tout := [.sl, .int .i64], gout := [] }
set_option maxHeartbeats 800000 in
set_option maxRecDepth 1000000 in
theorem open_short (a : Option Addr) (len cap : Nat) (w : World) (hl : len ≤ 2000) :
    Calls Tryd.prog 44 #[.slice a len cap] w fun e w' => e = .returned (.pointer (some ⟨w.heap.size, 0, none⟩)) ∧ w' = w.alloc (.cells #[.slice a len cap, .int .i64 0] 113) := by
  go_enter Tryd.func44, Tryd.ntmps44
  go_wp2
  go_ret
  exact ⟨rfl, rfl⟩
set_option maxHeartbeats 800000 in
set_option maxRecDepth 1000000 in
theorem open_long (a : Addr) (len cap : Nat) (w : World) (hl : ¬ len ≤ 2000) (hc : len ≤ cap) (hm : len ≤ 1048576) :
    Calls Tryd.prog 44 #[.slice (some a) len cap] w fun e w' => e = .returned (.pointer (some ⟨w.heap.size, 0, none⟩)) ∧ w' = w.alloc (.cells #[.slice (some a) 2000 cap, .int .i64 0] 113) := by
  go_enter Tryd.func44, Tryd.ntmps44
  go_wp2
  go_ret
  exact ⟨rfl, rfl⟩
theorem con_openC {cb : CodeB} (_ : CodeOk cb) (_ : Known cb (glb ++ cb.tail)) : ConOK Tryd.prog (glb ++ cb.tail) 44 sg_openC (G_open cb).spec := conOK_open (t := 113) open_short open_long


def sg_l91Frac : Sig := { args := [.s (.p (.own 0) 0)], pre := [⟨[.e (.var 0), .e (.var 1)], 113⟩], tin := [.sl, .int .i64], gin := [], res := .c (.ag [.e (.var 0), .e (.var 1), .e (.var 2)]), post := [⟨[.e (.var 3), .e (.var 4)], 113⟩], tout := [.int .i64, .int .i64, .int .i64, .sl, .int .i64], gout := [] }
def cl_l91Frac : List (Nat × Sig) := [(85, sg_pickC), (86, sg_l2Low)]
theorem run_l91Frac : (fun H : List (Nat × List Sc) => run ⟨Tryd.prog, glb ++ H, cl_l91Frac⟩ [] Tryd.f84 sg_l91Frac (Tryd.f84.body.getD .skip)) = fun _ => tr_l91Frac := by kernel_rfl
theorem om_l91Frac {cb : CodeB} (hk : CodeOk cb) (hG : Known cb (glb ++ cb.tail)) : ΩOK ⟨Tryd.prog, glb ++ cb.tail, cl_l91Frac⟩ (specsOf (Fs_l91Frac cb)) := (ΩOK_cons (con_pickC hk hG) Tryd.call85 (ΩOK_cons cong_l2Low.more Tryd.call86 ΩOK_nil))
theorem con_l91Frac {cb : CodeB} (hk : CodeOk cb) (hG : Known cb (glb ++ cb.tail)) : ConOK Tryd.prog (glb ++ cb.tail) 84 sg_l91Frac (F_l91Frac cb).spec := conOK_tree (om_l91Frac hk hG) mixed Tryd.func84 (by kernel_rfl) (congrFun run_l91Frac cb.tail)

def sg_l91Real : Sig := { args := [.s (.p (.own 0) 0)], pre := [⟨[.e (.var 0), .e (.var 1)], 113⟩], tin := [.sl, .int .i64], gin := [], res := .c (.ag [.e (.var 0), .e (.var 1), .e (.var 2)]), post := [⟨[.e (.var 3), .e (.var 4)], 113⟩], tout := [.int .i64, .int .i64, .int .i64, .sl, .int .i64], gout := [] }
def cl_l91Real : List (Nat × Sig) := [(85, sg_pickC), (84, sg_l91Frac), (86, sg_l2Low)]
theorem run_l91Real : (fun H : List (Nat × List Sc) => run ⟨Tryd.prog, glb ++ H, cl_l91Real⟩ [] Tryd.f43 sg_l91Real (Tryd.f43.body.getD .skip)) = fun _ => tr_l91Real := by kernel_rfl
theorem om_l91Real {cb : CodeB} (hk : CodeOk cb) (hG : Known cb (glb ++ cb.tail)) : ΩOK ⟨Tryd.prog, glb ++ cb.tail, cl_l91Real⟩ (specsOf (Fs_l91Real cb)) := (ΩOK_cons (con_pickC hk hG) Tryd.call85 (ΩOK_cons (con_l91Frac hk hG) Tryd.call84 (ΩOK_cons cong_l2Low.more Tryd.call86 ΩOK_nil)))
theorem con_l91Real {cb : CodeB} (hk : CodeOk cb) (hG : Known cb (glb ++ cb.tail)) : ConOK Tryd.prog (glb ++ cb.tail) 43 sg_l91Real (F_l91Real cb).spec := conOK_tree (om_l91Real hk hG) mixed Tryd.func43 (by kernel_rfl) (congrFun run_l91Real cb.tail)

def sg_iStokesOfG : Sig := { args := [.ag [.e (.var 0), .e (.var 1), .e (.var 2), .e (.var 3), .e (.var 4), .e (.var 5)]], pre := [], tin := [.int .i64, .int .i64, .int .i64, .int .i64, .int .i64, .int .i64], gin := [], res := .tu [.ag [.e (.var 0), .e (.var 1), .e (.var 2), .e (.var 3), .e (.var 4), .e (.var 5), .e (.var 6), .e (.var 7), .e (.var 8), .e (.var 9), .e (.var 10), .e (.var 11)], .s (.e (.var 12))], post := [], tout := [.int .i64, .int .i64, .int .i64, .int .i64, .int .i64, .int .i64, .int .i64, .int .i64, .int .i64, .int .i64, .int .i64, .int .i64, .bool], gout := [] }
def cl_iStokesOfG : List (Nat × Sig) := [(50, sg_iJonesValid), (49, sg_need), (51, sg_power), (53, sg_mirror), (52, sg_times), (54, sg_whole2), (58, sg_real), (59, sg_imag), (56, sg_add), (57, sg_less), (55, sg_gotStokes)]
theorem run_iStokesOfG : run ⟨Tryd.prog, glb, cl_iStokesOfG⟩ [] Tryd.f17 sg_iStokesOfG (Tryd.f17.body.getD .skip) = tr_iStokesOfG := by kernel_rfl
theorem om_iStokesOfG : ΩOK ⟨Tryd.prog, glb, cl_iStokesOfG⟩ (specsOf Fs_iStokesOfG) := (ΩOK_cons cong_iJonesValid Tryd.call50 (ΩOK_cons cong_need Tryd.call49 (ΩOK_cons cong_power Tryd.call51 (ΩOK_cons cong_mirror Tryd.call53 (ΩOK_cons cong_times Tryd.call52 (ΩOK_cons con_whole2 Tryd.call54 (ΩOK_cons cong_real Tryd.call58 (ΩOK_cons cong_imag Tryd.call59 (ΩOK_cons cong_add Tryd.call56 (ΩOK_cons cong_less Tryd.call57 (ΩOK_cons cong_gotStokes Tryd.call55 ΩOK_nil)))))))))))
theorem con_iStokesOfG : ConOK Tryd.prog glb 17 sg_iStokesOfG F_iStokesOfG.spec := conOK_tree om_iStokesOfG mixed Tryd.func17 (by kernel_rfl) run_iStokesOfG
theorem cong_iStokesOfG : ConOK Tryd.prog glb 17 sg_iStokesOfG G_iStokesOfG.spec := con_iStokesOfG.as as_iStokesOfG

def sg_wholeK1 : Sig := { args := [.s (.e (.int .i64 (1)))], pre := [], tin := [], gin := [], res := .c (.ag [.e (.int .i64 (1)), .e (.int .i64 (0)), .e (.int .i64 (1))]), post := [], tout := [], gout := [] }
def cl_wholeK1 : List (Nat × Sig) := []
theorem run_wholeK1 : run ⟨Tryd.prog, glb, cl_wholeK1⟩ [] Tryd.f54 sg_wholeK1 (Tryd.f54.body.getD .skip) = tr_wholeK1 := by kernel_rfl
theorem om_wholeK1 : ΩOK ⟨Tryd.prog, glb, cl_wholeK1⟩ (specsOf Fs_wholeK1) := ΩOK_nil
theorem con_wholeK1 : ConOK Tryd.prog glb 54 sg_wholeK1 F_wholeK1.spec := conOK_tree om_wholeK1 mixed Tryd.func54 (by kernel_rfl) run_wholeK1

def sg_iFracCompare : Sig := { args := [.ag [.e (.var 0), .e (.var 1), .e (.var 2)], .ag [.e (.var 3), .e (.var 4), .e (.var 5)]], pre := [], tin := [.int .i64, .int .i64, .int .i64, .int .i64, .int .i64, .int .i64], gin := [], res := .tu [.s (.e (.var 0)), .s (.e (.var 1))], post := [], tout := [.int .i64, .bool], gout := [] }
def cl_iFracCompare : List (Nat × Sig) := [(45, sg_realOk)]
theorem run_iFracCompare : run ⟨Tryd.prog, glb, cl_iFracCompare⟩ [] Tryd.f36 sg_iFracCompare (Tryd.f36.body.getD .skip) = tr_iFracCompare := by kernel_rfl
theorem om_iFracCompare : ΩOK ⟨Tryd.prog, glb, cl_iFracCompare⟩ (specsOf Fs_iFracCompare) := (ΩOK_cons cong_realOk Tryd.call45 ΩOK_nil)
theorem con_iFracCompare : ConOK Tryd.prog glb 36 sg_iFracCompare F_iFracCompare.spec := conOK_tree om_iFracCompare mixed Tryd.func36 (by kernel_rfl) run_iFracCompare
theorem cong_iFracCompare : ConOK Tryd.prog glb 36 sg_iFracCompare G_iFracCompare.spec := con_iFracCompare.as as_iFracCompare

def sg_six : Sig := { args := [.ag [.e (.var 0), .e (.var 1), .e (.var 2), .e (.var 3), .e (.var 4), .e (.var 5), .e (.var 6), .e (.var 7), .e (.var 8), .e (.var 9), .e (.var 10), .e (.var 11), .e (.var 12), .e (.var 13), .e (.var 14), .e (.var 15), .e (.var 16), .e (.var 17), .e (.var 18), .e (.var 19), .e (.var 20), .e (.var 21), .e (.var 22), .e (.var 23), .e (.var 24), .e (.var 25), .e (.var 26), .e (.var 27), .e (.var 28), .e (.var 29), .e (.var 30), .e (.var 31), .e (.var 32), .e (.var 33), .e (.var 34), .e (.var 35), .e (.var 36), .e (.var 37), .e (.var 38), .e (.var 39), .e (.var 40), .e (.var 41), .e (.var 42), .e (.var 43), .e (.var 44), .e (.var 45), .e (.var 46), .e (.var 47)]], pre := [], tin := [.int .i64, .int .i64, .int .i64, .int .i64, .int .i64, .int .i64, .int .i64, .int .i64, .int .i64, .int .i64, .int .i64, .int .i64, .int .i64, .int .i64, .int .i64, .int .i64, .int .i64, .int .i64, .int .i64, .int .i64, .int .i64, .int .i64, .int .i64, .int .i64, .int .i64, .int .i64, .int .i64, .int .i64, .int .i64, .int .i64, .int .i64, .int .i64, .int .i64, .int .i64, .int .i64, .int .i64, .int .i64, .int .i64, .int .i64, .int .i64, .int .i64, .int .i64, .int .i64, .int .i64, .int .i64, .int .i64, .int .i64, .int .i64], gin := [], res := .tu [.s (.e (.var 0)), .s (.e (.var 1))], post := [], tout := [.sl, .bool, .row .i64 3], gout := [(0, 2, 3)] }
def cl_six : List (Nat × Sig) := [(54, sg_wholeK1), (54, sg_wholeM), (18, sg_iTableApply)]
theorem run_six : run ⟨Tryd.prog, glb, cl_six⟩ [] Tryd.f42 sg_six (Tryd.f42.body.getD .skip) = tr_six := by kernel_rfl
theorem om_six : ΩOK ⟨Tryd.prog, glb, cl_six⟩ (specsOf Fs_six) := (ΩOK_cons con_wholeK1 Tryd.call54 (ΩOK_cons con_wholeM Tryd.call54 (ΩOK_cons cong_iTableApply Tryd.call18 ΩOK_nil)))
theorem con_six : ConOK Tryd.prog glb 42 sg_six SP_six := conOK_of om_six mixed Tryd.func42 (by kernel_rfl) run_six (fun ins K ht h => sat_six Tryd.prog ins K ht h)

def sg_iTableKeeps : Sig := { args := [.ag [.e (.var 0), .e (.var 1), .e (.var 2), .e (.var 3), .e (.var 4), .e (.var 5), .e (.var 6), .e (.var 7), .e (.var 8), .e (.var 9), .e (.var 10), .e (.var 11), .e (.var 12), .e (.var 13), .e (.var 14), .e (.var 15), .e (.var 16), .e (.var 17), .e (.var 18), .e (.var 19), .e (.var 20), .e (.var 21), .e (.var 22), .e (.var 23), .e (.var 24), .e (.var 25), .e (.var 26), .e (.var 27), .e (.var 28), .e (.var 29), .e (.var 30), .e (.var 31), .e (.var 32), .e (.var 33), .e (.var 34), .e (.var 35), .e (.var 36), .e (.var 37), .e (.var 38), .e (.var 39), .e (.var 40), .e (.var 41), .e (.var 42), .e (.var 43), .e (.var 44), .e (.var 45), .e (.var 46), .e (.var 47)]], pre := [], tin := [.int .i64, .int .i64, .int .i64, .int .i64, .int .i64, .int .i64, .int .i64, .int .i64, .int .i64, .int .i64, .int .i64, .int .i64, .int .i64, .int .i64, .int .i64, .int .i64, .int .i64, .int .i64, .int .i64, .int .i64, .int .i64, .int .i64, .int .i64, .int .i64, .int .i64, .int .i64, .int .i64, .int .i64, .int .i64, .int .i64, .int .i64, .int .i64, .int .i64, .int .i64, .int .i64, .int .i64, .int .i64, .int .i64, .int .i64, .int .i64, .int .i64, .int .i64, .int .i64, .int .i64, .int .i64, .int .i64, .int .i64, .int .i64], gin := [], res := .c (.s (.e (.var 0))), post := [], tout := [.bool], gout := [] }
def cl_iTableKeeps : List (Nat × Sig) := [(42, sg_six), (36, sg_iFracCompare)]
theorem run_iTableKeeps : run ⟨Tryd.prog, glb, cl_iTableKeeps⟩ [(0, ⟨[(18, .int .i64), (4, .bool)], [], none⟩)] Tryd.f13 sg_iTableKeeps (Tryd.f13.body.getD .skip) = tr_iTableKeeps := by kernel_rfl
theorem om_iTableKeeps : ΩOK ⟨Tryd.prog, glb, cl_iTableKeeps⟩ Ss_iTableKeeps := (ΩOK_consS con_six Tryd.call42 (ΩOK_consS cong_iFracCompare Tryd.call36 ΩOK_nilS))
theorem con_iTableKeeps : ConOK Tryd.prog glb 13 sg_iTableKeeps F_iTableKeeps.spec := conOK_of om_iTableKeeps mixed Tryd.func13 (by kernel_rfl) run_iTableKeeps (fun ins K ht h => sat_iTableKeeps Tryd.prog ins K ht h.1 h.2)

def sg_diagonal : Sig := { args := [.ag [.e (.int .i64 (1)), .e (.int .i64 (0)), .e (.int .i64 (1))], .ag [.e (.var 0), .e (.var 1), .e (.var 2)]], pre := [], tin := [.int .i64, .int .i64, .int .i64], gin := [], res := .c (.ag [.e (.var 0), .e (.var 1), .e (.var 2), .e (.var 3), .e (.var 4), .e (.var 5), .e (.var 6), .e (.var 7), .e (.var 8), .e (.var 9), .e (.var 10), .e (.var 11), .e (.var 12), .e (.var 13), .e (.var 14), .e (.var 15), .e (.var 16), .e (.var 17), .e (.var 18), .e (.var 19), .e (.var 20), .e (.var 21), .e (.var 22), .e (.var 23), .e (.var 24), .e (.var 25), .e (.var 26), .e (.var 27), .e (.var 28), .e (.var 29), .e (.var 30), .e (.var 31), .e (.var 32), .e (.var 33), .e (.var 34), .e (.var 35), .e (.var 36), .e (.var 37), .e (.var 38), .e (.var 39), .e (.var 40), .e (.var 41), .e (.var 42), .e (.var 43), .e (.var 44), .e (.var 45), .e (.var 46), .e (.var 47)]), post := [], tout := [.int .i64, .int .i64, .int .i64, .int .i64, .int .i64, .int .i64, .int .i64, .int .i64, .int .i64, .int .i64, .int .i64, .int .i64, .int .i64, .int .i64, .int .i64, .int .i64, .int .i64, .int .i64, .int .i64, .int .i64, .int .i64, .int .i64, .int .i64, .int .i64, .int .i64, .int .i64, .int .i64, .int .i64, .int .i64, .int .i64, .int .i64, .int .i64, .int .i64, .int .i64, .int .i64, .int .i64, .int .i64, .int .i64, .int .i64, .int .i64, .int .i64, .int .i64, .int .i64, .int .i64, .int .i64, .int .i64, .int .i64, .int .i64], gout := [] }
def cl_diagonal : List (Nat × Sig) := []
theorem run_diagonal : run ⟨Tryd.prog, glb, cl_diagonal⟩ [] Tryd.f46 sg_diagonal (Tryd.f46.body.getD .skip) = tr_diagonal := by kernel_rfl
theorem om_diagonal : ΩOK ⟨Tryd.prog, glb, cl_diagonal⟩ (specsOf Fs_diagonal) := ΩOK_nil
theorem con_diagonal : ConOK Tryd.prog glb 46 sg_diagonal F_diagonal.spec := conOK_tree om_diagonal mixed Tryd.func46 (by kernel_rfl) run_diagonal

def sg_iTableFade : Sig := { args := [.ag [.e (.var 0), .e (.var 1), .e (.var 2)]], pre := [], tin := [.int .i64, .int .i64, .int .i64], gin := [], res := .tu [.ag [.e (.var 0), .e (.var 1), .e (.var 2), .e (.var 3), .e (.var 4), .e (.var 5), .e (.var 6), .e (.var 7), .e (.var 8), .e (.var 9), .e (.var 10), .e (.var 11), .e (.var 12), .e (.var 13), .e (.var 14), .e (.var 15), .e (.var 16), .e (.var 17), .e (.var 18), .e (.var 19), .e (.var 20), .e (.var 21), .e (.var 22), .e (.var 23), .e (.var 24), .e (.var 25), .e (.var 26), .e (.var 27), .e (.var 28), .e (.var 29), .e (.var 30), .e (.var 31), .e (.var 32), .e (.var 33), .e (.var 34), .e (.var 35), .e (.var 36), .e (.var 37), .e (.var 38), .e (.var 39), .e (.var 40), .e (.var 41), .e (.var 42), .e (.var 43), .e (.var 44), .e (.var 45), .e (.var 46), .e (.var 47)], .s (.e (.var 48))], post := [], tout := [.int .i64, .int .i64, .int .i64, .int .i64, .int .i64, .int .i64, .int .i64, .int .i64, .int .i64, .int .i64, .int .i64, .int .i64, .int .i64, .int .i64, .int .i64, .int .i64, .int .i64, .int .i64, .int .i64, .int .i64, .int .i64, .int .i64, .int .i64, .int .i64, .int .i64, .int .i64, .int .i64, .int .i64, .int .i64, .int .i64, .int .i64, .int .i64, .int .i64, .int .i64, .int .i64, .int .i64, .int .i64, .int .i64, .int .i64, .int .i64, .int .i64, .int .i64, .int .i64, .int .i64, .int .i64, .int .i64, .int .i64, .int .i64, .bool], gout := [] }
def cl_iTableFade : List (Nat × Sig) := [(45, sg_realOk), (46, sg_diagonal)]
theorem run_iTableFade : run ⟨Tryd.prog, glb, cl_iTableFade⟩ [] Tryd.f15 sg_iTableFade (Tryd.f15.body.getD .skip) = tr_iTableFade := by kernel_rfl
theorem om_iTableFade : ΩOK ⟨Tryd.prog, glb, cl_iTableFade⟩ (specsOf Fs_iTableFade) := (ΩOK_cons cong_realOk Tryd.call45 (ΩOK_cons con_diagonal Tryd.call46 ΩOK_nil))
theorem con_iTableFade : ConOK Tryd.prog glb 15 sg_iTableFade F_iTableFade.spec := conOK_tree om_iTableFade mixed Tryd.func15 (by kernel_rfl) run_iTableFade
theorem cong_iTableFade : ConOK Tryd.prog glb 15 sg_iTableFade G_iTableFade.spec := con_iTableFade.as as_iTableFade

def sg_sTableFade : Sig := { args := [.ag [.e (.var 0), .e (.var 1), .e (.var 2)]], pre := [], tin := [.int .i64, .int .i64, .int .i64], gin := [], res := .tu [.ag [.e (.var 0), .e (.var 1), .e (.var 2), .e (.var 3), .e (.var 4), .e (.var 5), .e (.var 6), .e (.var 7), .e (.var 8), .e (.var 9), .e (.var 10), .e (.var 11), .e (.var 12), .e (.var 13), .e (.var 14), .e (.var 15), .e (.var 16), .e (.var 17), .e (.var 18), .e (.var 19), .e (.var 20), .e (.var 21), .e (.var 22), .e (.var 23), .e (.var 24), .e (.var 25), .e (.var 26), .e (.var 27), .e (.var 28), .e (.var 29), .e (.var 30), .e (.var 31), .e (.var 32), .e (.var 33), .e (.var 34), .e (.var 35), .e (.var 36), .e (.var 37), .e (.var 38), .e (.var 39), .e (.var 40), .e (.var 41), .e (.var 42), .e (.var 43), .e (.var 44), .e (.var 45), .e (.var 46), .e (.var 47)], .s (.e (.var 48))], post := [], tout := [.int .i64, .int .i64, .int .i64, .int .i64, .int .i64, .int .i64, .int .i64, .int .i64, .int .i64, .int .i64, .int .i64, .int .i64, .int .i64, .int .i64, .int .i64, .int .i64, .int .i64, .int .i64, .int .i64, .int .i64, .int .i64, .int .i64, .int .i64, .int .i64, .int .i64, .int .i64, .int .i64, .int .i64, .int .i64, .int .i64, .int .i64, .int .i64, .int .i64, .int .i64, .int .i64, .int .i64, .int .i64, .int .i64, .int .i64, .int .i64, .int .i64, .int .i64, .int .i64, .int .i64, .int .i64, .int .i64, .int .i64, .int .i64, .bool], gout := [] }
def cl_sTableFade : List (Nat × Sig) := [(47, sg_sFracValid), (48, sg_l6tDiag)]
theorem run_sTableFade : run ⟨Tryd.prog, glb, cl_sTableFade⟩ [] Tryd.f16 sg_sTableFade (Tryd.f16.body.getD .skip) = tr_sTableFade := by kernel_rfl
theorem om_sTableFade : ΩOK ⟨Tryd.prog, glb, cl_sTableFade⟩ (specsOf Fs_sTableFade) := (ΩOK_cons cong_sFracValid Tryd.call47 (ΩOK_cons con_l6tDiag Tryd.call48 ΩOK_nil))
theorem con_sTableFade : ConOK Tryd.prog glb 16 sg_sTableFade F_sTableFade.spec := conOK_tree om_sTableFade mixed Tryd.func16 (by kernel_rfl) run_sTableFade
theorem cong_sTableFade : ConOK Tryd.prog glb 16 sg_sTableFade G_sTableFade.spec := con_sTableFade.as as_sTableFade

def sg_DrawTableFade : Sig := { args := [.s (.e (.var 0))], pre := [], tin := [.sl], gin := [], res := .c (.ag [.e (.var 0), .e (.var 1), .e (.var 2)]), post := [], tout := [.int .i64, .int .i64, .int .i64], gout := [] }
def cl_DrawTableFade : List (Nat × Sig) := [(44, sg_openC), (43, sg_l91Real)]
theorem run_DrawTableFade : (fun H : List (Nat × List Sc) => run ⟨Tryd.prog, glb ++ H, cl_DrawTableFade⟩ [] Tryd.f14 sg_DrawTableFade (Tryd.f14.body.getD .skip)) = fun _ => tr_DrawTableFade := by kernel_rfl
theorem om_DrawTableFade {cb : CodeB} (hk : CodeOk cb) (hG : Known cb (glb ++ cb.tail)) : ΩOK ⟨Tryd.prog, glb ++ cb.tail, cl_DrawTableFade⟩ (specsOf (Fs_DrawTableFade cb)) := (ΩOK_cons (con_openC hk hG) Tryd.call44 (ΩOK_cons (con_l91Real hk hG) Tryd.call43 ΩOK_nil))
theorem con_DrawTableFade {cb : CodeB} (hk : CodeOk cb) (hG : Known cb (glb ++ cb.tail)) : ConOK Tryd.prog (glb ++ cb.tail) 14 sg_DrawTableFade (F_DrawTableFade cb).spec := conOK_tree (om_DrawTableFade hk hG) mixed Tryd.func14 (by kernel_rfl) (congrFun run_DrawTableFade cb.tail)

def sg_iStokesSquares : Sig := { args := [.ag [.e (.var 0), .e (.var 1), .e (.var 2), .e (.var 3), .e (.var 4), .e (.var 5), .e (.var 6), .e (.var 7), .e (.var 8), .e (.var 9), .e (.var 10), .e (.var 11)]], pre := [], tin := [.int .i64, .int .i64, .int .i64, .int .i64, .int .i64, .int .i64, .int .i64, .int .i64, .int .i64, .int .i64, .int .i64, .int .i64], gin := [], res := .tu [.ag [.e (.var 0), .e (.var 1), .e (.var 2)], .s (.e (.var 3))], post := [], tout := [.int .i64, .int .i64, .int .i64, .bool], gout := [] }
def cl_iStokesSquares : List (Nat × Sig) := [(60, sg_iStokesValid), (49, sg_need), (52, sg_times), (56, sg_add), (61, sg_gotFrac)]
theorem run_iStokesSquares : run ⟨Tryd.prog, glb, cl_iStokesSquares⟩ [] Tryd.f19 sg_iStokesSquares (Tryd.f19.body.getD .skip) = tr_iStokesSquares := by kernel_rfl
theorem om_iStokesSquares : ΩOK ⟨Tryd.prog, glb, cl_iStokesSquares⟩ (specsOf Fs_iStokesSquares) := (ΩOK_cons cong_iStokesValid Tryd.call60 (ΩOK_cons cong_need Tryd.call49 (ΩOK_cons cong_times Tryd.call52 (ΩOK_cons cong_add Tryd.call56 (ΩOK_cons cong_gotFrac Tryd.call61 ΩOK_nil)))))
theorem con_iStokesSquares : ConOK Tryd.prog glb 19 sg_iStokesSquares F_iStokesSquares.spec := conOK_tree om_iStokesSquares mixed Tryd.func19 (by kernel_rfl) run_iStokesSquares
theorem cong_iStokesSquares : ConOK Tryd.prog glb 19 sg_iStokesSquares G_iStokesSquares.spec := con_iStokesSquares.as as_iStokesSquares

def sg_excess : Sig := { args := [.ag [.e (.var 0), .e (.var 1), .e (.var 2), .e (.var 3), .e (.var 4), .e (.var 5), .e (.var 6), .e (.var 7), .e (.var 8), .e (.var 9), .e (.var 10), .e (.var 11)]], pre := [], tin := [.int .i64, .int .i64, .int .i64, .int .i64, .int .i64, .int .i64, .int .i64, .int .i64, .int .i64, .int .i64, .int .i64, .int .i64], gin := [], res := .tu [.s (.e (.var 0)), .s (.e (.var 1))], post := [], tout := [.int .i64, .bool], gout := [] }
def cl_excess : List (Nat × Sig) := [(19, sg_iStokesSquares), (93, sg_iFracTimes), (36, sg_iFracCompare)]
theorem run_excess : run ⟨Tryd.prog, glb, cl_excess⟩ [] Tryd.f62 sg_excess (Tryd.f62.body.getD .skip) = tr_excess := by kernel_rfl
theorem om_excess : ΩOK ⟨Tryd.prog, glb, cl_excess⟩ (specsOf Fs_excess) := (ΩOK_cons cong_iStokesSquares Tryd.call19 (ΩOK_cons cong_iFracTimes Tryd.call93 (ΩOK_cons cong_iFracCompare Tryd.call36 ΩOK_nil)))
theorem con_excess : ConOK Tryd.prog glb 62 sg_excess F_excess.spec := conOK_tree om_excess mixed Tryd.func62 (by kernel_rfl) run_excess
theorem cong_excess : ConOK Tryd.prog glb 62 sg_excess G_excess.spec := con_excess.as as_excess

def sg_iStokesLight : Sig := { args := [.ag [.e (.var 0), .e (.var 1), .e (.var 2), .e (.var 3), .e (.var 4), .e (.var 5), .e (.var 6), .e (.var 7), .e (.var 8), .e (.var 9), .e (.var 10), .e (.var 11)]], pre := [], tin := [.int .i64, .int .i64, .int .i64, .int .i64, .int .i64, .int .i64, .int .i64, .int .i64, .int .i64, .int .i64, .int .i64, .int .i64], gin := [], res := .c (.s (.e (.var 0))), post := [], tout := [.bool], gout := [] }
def cl_iStokesLight : List (Nat × Sig) := [(62, sg_excess)]
theorem run_iStokesLight : run ⟨Tryd.prog, glb, cl_iStokesLight⟩ [] Tryd.f20 sg_iStokesLight (Tryd.f20.body.getD .skip) = tr_iStokesLight := by kernel_rfl
theorem om_iStokesLight : ΩOK ⟨Tryd.prog, glb, cl_iStokesLight⟩ (specsOf Fs_iStokesLight) := (ΩOK_cons cong_excess Tryd.call62 ΩOK_nil)
theorem con_iStokesLight : ConOK Tryd.prog glb 20 sg_iStokesLight F_iStokesLight.spec := conOK_tree om_iStokesLight mixed Tryd.func20 (by kernel_rfl) run_iStokesLight
theorem cong_iStokesLight : ConOK Tryd.prog glb 20 sg_iStokesLight G_iStokesLight.spec := con_iStokesLight.as as_iStokesLight

def sg_FnFade : Sig := { args := [.s (.e (.var 0))], pre := [], tin := [.sl], gin := [], res := .c (.s (.e (.var 0))), post := [], tout := [.bool], gout := [] }
def cl_FnFade : List (Nat × Sig) := [(14, sg_DrawTableFade), (15, sg_iTableFade), (16, sg_sTableFade), (17, sg_iStokesOfG), (18, sg_iTableApply), (19, sg_iStokesSquares), (13, sg_iTableKeeps), (20, sg_iStokesLight)]
theorem run_FnFade : (fun H : List (Nat × List Sc) => run ⟨Tryd.prog, glb ++ H, cl_FnFade⟩ [] Tryd.f4 sg_FnFade (Tryd.f4.body.getD .skip)) = fun _ => tr_FnFade := by kernel_rfl
theorem draw_DrawTableFade {cb : CodeB} (hk : CodeOk cb) (hG : Known cb (glb ++ cb.tail)) : ConOK Tryd.prog (glb ++ cb.tail) 14 sg_DrawTableFade (drawSpec dt_FnFade (drawPre cb)) := (con_DrawTableFade hk hG).draw (draw_pre (aok_DrawTableFade hk) (by kernel_rfl))
theorem om_FnFade {cb : CodeB} (hk : CodeOk cb) (hG : Known cb (glb ++ cb.tail)) : ΩOK ⟨Tryd.prog, glb ++ cb.tail, cl_FnFade⟩ (Ss_FnFade cb) := ΩOK_specs (draw_DrawTableFade hk hG) Tryd.call14 (ΩOK_cons cong_iTableFade.more Tryd.call15 (ΩOK_cons cong_sTableFade.more Tryd.call16 (ΩOK_cons cong_iStokesOfG.more Tryd.call17 (ΩOK_cons cong_iTableApply.more Tryd.call18 (ΩOK_cons cong_iStokesSquares.more Tryd.call19 (ΩOK_cons con_iTableKeeps.more Tryd.call13 (ΩOK_cons cong_iStokesLight.more Tryd.call20 ΩOK_nil)))))))
theorem con_FnFade {cb : CodeB} (hk : CodeOk cb) (hG : Known cb (glb ++ cb.tail)) : ConOK Tryd.prog (glb ++ cb.tail) 4 sg_FnFade (lawF cb).spec := conOK_of (om_FnFade hk hG) mixed Tryd.func4 (by kernel_rfl) (congrFun run_FnFade cb.tail) (fun ins K ht h => sat_FnFade Tryd.prog cb ins K ht h.1 h.2)

end Go.Proofs.YtnlgkipjpbdodaaDoor

/- The contracts of the functions. -/
import Derived.Test.YtnlgkipjpbdodaaDoorChecked
import Derived.Test.YtnlgkipjpbdodaaDoorRkAFnExactTableOf
namespace Go.Proofs.YtnlgkipjpbdodaaDoor
open Go Go.Sx
set_option maxRecDepth 100000

def glb : List (Nat × List Sc) := [(0, [.e (.int .i64 (0)), .e (.int .i64 (0)), .e (.int .i64 (1))])]
theorem mixed : Tryd.prog.follows .mixedOrders = true := by kernel_rfl

def sg_size : Sig := { args := [.s (.e (.var 0))], pre := [], tin := [.int .i64], gin := [], res := .c (.s (.e (.var 0))), post := [], tout := [.int .i64], gout := [] }
def cl_size : List (Nat × Sig) := []
theorem run_size : run ⟨Tryd.prog, glb, cl_size⟩ [] Tryd.f107 sg_size (Tryd.f107.body.getD .skip) = tr_size := by kernel_rfl
theorem om_size : ΩOK ⟨Tryd.prog, glb, cl_size⟩ (specsOf Fs_size) := ΩOK_nil
theorem con_size : ConOK Tryd.prog glb 107 sg_size F_size.spec := conOK_tree om_size mixed Tryd.func107 (by kernel_rfl) run_size

def sg_within : Sig := { args := [.s (.e (.var 0)), .s (.e (.var 1)), .s (.e (.var 2))], pre := [], tin := [.int .i64, .int .i64, .int .i64], gin := [], res := .c (.s (.e (.var 0))), post := [], tout := [.bool], gout := [] }
def cl_within : List (Nat × Sig) := []
theorem run_within : run ⟨Tryd.prog, glb, cl_within⟩ [] Tryd.f75 sg_within (Tryd.f75.body.getD .skip) = tr_within := by kernel_rfl
theorem om_within : ΩOK ⟨Tryd.prog, glb, cl_within⟩ (specsOf Fs_within) := ΩOK_nil
theorem con_within : ConOK Tryd.prog glb 75 sg_within F_within.spec := conOK_tree om_within mixed Tryd.func75 (by kernel_rfl) run_within
theorem cong_within : ConOK Tryd.prog glb 75 sg_within G_within.spec := con_within.as as_within

def sg_l6In : Sig := { args := [.s (.e (.var 0)), .s (.e (.var 1)), .s (.e (.var 2))], pre := [], tin := [.int .i64, .int .i64, .int .i64], gin := [], res := .c (.s (.e (.var 0))), post := [], tout := [.bool], gout := [] }
def cl_l6In : List (Nat × Sig) := []
theorem run_l6In : run ⟨Tryd.prog, glb, cl_l6In⟩ [] Tryd.f89 sg_l6In (Tryd.f89.body.getD .skip) = tr_l6In := by kernel_rfl
theorem om_l6In : ΩOK ⟨Tryd.prog, glb, cl_l6In⟩ (specsOf Fs_l6In) := ΩOK_nil
theorem con_l6In : ConOK Tryd.prog glb 89 sg_l6In F_l6In.spec := conOK_tree om_l6In mixed Tryd.func89 (by kernel_rfl) run_l6In
theorem cong_l6In : ConOK Tryd.prog glb 89 sg_l6In G_l6In.spec := con_l6In.as as_l6In

def sg_l2In : Sig := { args := [.s (.e (.var 0))], pre := [], tin := [.int .i64], gin := [], res := .c (.s (.e (.var 0))), post := [], tout := [.bool], gout := [] }
def cl_l2In : List (Nat × Sig) := [(89, sg_l6In)]
theorem run_l2In : run ⟨Tryd.prog, glb, cl_l2In⟩ [] Tryd.f88 sg_l2In (Tryd.f88.body.getD .skip) = tr_l2In := by kernel_rfl
theorem om_l2In : ΩOK ⟨Tryd.prog, glb, cl_l2In⟩ (specsOf Fs_l2In) := (ΩOK_cons cong_l6In Tryd.call89 ΩOK_nil)
theorem con_l2In : ConOK Tryd.prog glb 88 sg_l2In F_l2In.spec := conOK_tree om_l2In mixed Tryd.func88 (by kernel_rfl) run_l2In
theorem cong_l2In : ConOK Tryd.prog glb 88 sg_l2In G_l2In.spec := con_l2In.as as_l2In

def sg_divisor : Sig := { args := [.s (.e (.var 0)), .s (.e (.var 1))], pre := [], tin := [.int .i64, .int .i64], gin := [], res := .c (.s (.e (.var 0))), post := [], tout := [.int .i64], gout := [] }
def cl_divisor : List (Nat × Sig) := []
theorem run_divisor : run ⟨Tryd.prog, glb, cl_divisor⟩ [(0, ⟨[(0, .int .i64), (1, .int .i64)], []⟩)] Tryd.f106 sg_divisor (Tryd.f106.body.getD .skip) = tr_divisor := by kernel_rfl
theorem om_divisor : ΩOK ⟨Tryd.prog, glb, cl_divisor⟩ (specsOf Fs_divisor) := ΩOK_nil
theorem con_divisor : ConOK Tryd.prog glb 106 sg_divisor F_divisor.spec := conOK_of om_divisor mixed Tryd.func106 (by kernel_rfl) run_divisor (fun ins K ht h => sat_divisor Tryd.prog ins K ht h.1 h.2)

def sg_l2Gcd : Sig := { args := [.s (.e (.var 0)), .s (.e (.var 1))], pre := [], tin := [.int .i64, .int .i64], gin := [], res := .c (.s (.e (.var 0))), post := [], tout := [.int .i64], gout := [] }
def cl_l2Gcd : List (Nat × Sig) := []
theorem run_l2Gcd : run ⟨Tryd.prog, glb, cl_l2Gcd⟩ [(0, ⟨[(0, .int .i64), (1, .int .i64)], []⟩)] Tryd.f90 sg_l2Gcd (Tryd.f90.body.getD .skip) = tr_l2Gcd := by kernel_rfl
theorem om_l2Gcd : ΩOK ⟨Tryd.prog, glb, cl_l2Gcd⟩ (specsOf Fs_l2Gcd) := ΩOK_nil
theorem con_l2Gcd : ConOK Tryd.prog glb 90 sg_l2Gcd F_l2Gcd.spec := conOK_of om_l2Gcd mixed Tryd.func90 (by kernel_rfl) run_l2Gcd (fun ins K ht h => sat_l2Gcd Tryd.prog ins K ht h.1 h.2)

def sg_lowest : Sig := { args := [.s (.e (.var 0)), .s (.e (.var 1)), .s (.e (.var 2))], pre := [], tin := [.int .i64, .int .i64, .int .i64], gin := [], res := .tu [.ag [.e (.var 0), .e (.var 1), .e (.var 2)], .s (.e (.var 3))], post := [], tout := [.int .i64, .int .i64, .int .i64, .bool], gout := [] }
def cl_lowest : List (Nat × Sig) := [(107, sg_size), (106, sg_divisor), (75, sg_within)]
theorem run_lowest : run ⟨Tryd.prog, glb, cl_lowest⟩ [] Tryd.f79 sg_lowest (Tryd.f79.body.getD .skip) = tr_lowest := by kernel_rfl
theorem om_lowest : ΩOK ⟨Tryd.prog, glb, cl_lowest⟩ (specsOf Fs_lowest) := (ΩOK_cons con_size Tryd.call107 (ΩOK_cons con_divisor Tryd.call106 (ΩOK_cons cong_within Tryd.call75 ΩOK_nil)))
theorem con_lowest : ConOK Tryd.prog glb 79 sg_lowest F_lowest.spec := conOK_tree om_lowest mixed Tryd.func79 (by kernel_rfl) run_lowest
theorem cong_lowest : ConOK Tryd.prog glb 79 sg_lowest G_lowest.spec := con_lowest.as as_lowest

def sg_sFracValid : Sig := { args := [.ag [.e (.var 0), .e (.var 1), .e (.var 2)]], pre := [], tin := [.int .i64, .int .i64, .int .i64], gin := [], res := .c (.s (.e (.var 0))), post := [], tout := [.bool], gout := [] }
def cl_sFracValid : List (Nat × Sig) := [(88, sg_l2In), (89, sg_l6In), (90, sg_l2Gcd)]
theorem run_sFracValid : run ⟨Tryd.prog, glb, cl_sFracValid⟩ [] Tryd.f47 sg_sFracValid (Tryd.f47.body.getD .skip) = tr_sFracValid := by kernel_rfl
theorem om_sFracValid : ΩOK ⟨Tryd.prog, glb, cl_sFracValid⟩ (specsOf Fs_sFracValid) := (ΩOK_cons cong_l2In Tryd.call88 (ΩOK_cons cong_l6In Tryd.call89 (ΩOK_cons con_l2Gcd Tryd.call90 ΩOK_nil)))
theorem con_sFracValid : ConOK Tryd.prog glb 47 sg_sFracValid F_sFracValid.spec := conOK_tree om_sFracValid mixed Tryd.func47 (by kernel_rfl) run_sFracValid
theorem cong_sFracValid : ConOK Tryd.prog glb 47 sg_sFracValid G_sFracValid.spec := con_sFracValid.as as_sFracValid

def sg_l2Low : Sig := { args := [.s (.e (.var 0)), .s (.e (.var 1)), .s (.e (.var 2))], pre := [], tin := [.int .i64, .int .i64, .int .i64], gin := [], res := .tu [.ag [.e (.var 0), .e (.var 1), .e (.var 2)], .s (.e (.var 3))], post := [], tout := [.int .i64, .int .i64, .int .i64, .bool], gout := [] }
def cl_l2Low : List (Nat × Sig) := [(90, sg_l2Gcd), (47, sg_sFracValid)]
theorem run_l2Low : run ⟨Tryd.prog, glb, cl_l2Low⟩ [] Tryd.f86 sg_l2Low (Tryd.f86.body.getD .skip) = tr_l2Low := by kernel_rfl
theorem om_l2Low : ΩOK ⟨Tryd.prog, glb, cl_l2Low⟩ (specsOf Fs_l2Low) := (ΩOK_cons con_l2Gcd Tryd.call90 (ΩOK_cons cong_sFracValid Tryd.call47 ΩOK_nil))
theorem con_l2Low : ConOK Tryd.prog glb 86 sg_l2Low F_l2Low.spec := conOK_tree om_l2Low mixed Tryd.func86 (by kernel_rfl) run_l2Low
theorem cong_l2Low : ConOK Tryd.prog glb 86 sg_l2Low G_l2Low.spec := con_l2Low.as as_l2Low

def sg_sFracMake : Sig := { args := [.s (.e (.var 0)), .s (.e (.var 1)), .s (.e (.var 2))], pre := [], tin := [.int .i64, .int .i64, .int .i64], gin := [], res := .tu [.ag [.e (.var 0), .e (.var 1), .e (.var 2)], .s (.e (.var 3))], post := [], tout := [.int .i64, .int .i64, .int .i64, .bool], gout := [] }
def cl_sFracMake : List (Nat × Sig) := [(89, sg_l6In), (86, sg_l2Low)]
theorem run_sFracMake : run ⟨Tryd.prog, glb, cl_sFracMake⟩ [] Tryd.f114 sg_sFracMake (Tryd.f114.body.getD .skip) = tr_sFracMake := by kernel_rfl
theorem om_sFracMake : ΩOK ⟨Tryd.prog, glb, cl_sFracMake⟩ (specsOf Fs_sFracMake) := (ΩOK_cons cong_l6In Tryd.call89 (ΩOK_cons cong_l2Low Tryd.call86 ΩOK_nil))
theorem con_sFracMake : ConOK Tryd.prog glb 114 sg_sFracMake F_sFracMake.spec := conOK_tree om_sFracMake mixed Tryd.func114 (by kernel_rfl) run_sFracMake
theorem cong_sFracMake : ConOK Tryd.prog glb 114 sg_sFracMake G_sFracMake.spec := con_sFracMake.as as_sFracMake

def sg_iFracValid : Sig := { args := [.ag [.e (.var 0), .e (.var 1), .e (.var 2)]], pre := [], tin := [.int .i64, .int .i64, .int .i64], gin := [], res := .c (.s (.e (.var 0))), post := [], tout := [.bool], gout := [] }
def cl_iFracValid : List (Nat × Sig) := [(75, sg_within), (106, sg_divisor), (107, sg_size)]
theorem run_iFracValid : run ⟨Tryd.prog, glb, cl_iFracValid⟩ [] Tryd.f87 sg_iFracValid (Tryd.f87.body.getD .skip) = tr_iFracValid := by kernel_rfl
theorem om_iFracValid : ΩOK ⟨Tryd.prog, glb, cl_iFracValid⟩ (specsOf Fs_iFracValid) := (ΩOK_cons cong_within Tryd.call75 (ΩOK_cons con_divisor Tryd.call106 (ΩOK_cons con_size Tryd.call107 ΩOK_nil)))
theorem con_iFracValid : ConOK Tryd.prog glb 87 sg_iFracValid F_iFracValid.spec := conOK_tree om_iFracValid mixed Tryd.func87 (by kernel_rfl) run_iFracValid
theorem cong_iFracValid : ConOK Tryd.prog glb 87 sg_iFracValid G_iFracValid.spec := con_iFracValid.as as_iFracValid

def sg_iFracAdd : Sig := { args := [.ag [.e (.var 0), .e (.var 1), .e (.var 2)], .ag [.e (.var 3), .e (.var 4), .e (.var 5)]], pre := [], tin := [.int .i64, .int .i64, .int .i64, .int .i64, .int .i64, .int .i64], gin := [], res := .tu [.ag [.e (.var 0), .e (.var 1), .e (.var 2)], .s (.e (.var 3))], post := [], tout := [.int .i64, .int .i64, .int .i64, .bool], gout := [] }
def cl_iFracAdd : List (Nat × Sig) := [(87, sg_iFracValid), (79, sg_lowest)]
theorem run_iFracAdd : run ⟨Tryd.prog, glb, cl_iFracAdd⟩ [] Tryd.f95 sg_iFracAdd (Tryd.f95.body.getD .skip) = tr_iFracAdd := by kernel_rfl
theorem om_iFracAdd : ΩOK ⟨Tryd.prog, glb, cl_iFracAdd⟩ (specsOf Fs_iFracAdd) := (ΩOK_cons cong_iFracValid Tryd.call87 (ΩOK_cons cong_lowest Tryd.call79 ΩOK_nil))
theorem con_iFracAdd : ConOK Tryd.prog glb 95 sg_iFracAdd F_iFracAdd.spec := conOK_tree om_iFracAdd mixed Tryd.func95 (by kernel_rfl) run_iFracAdd
theorem cong_iFracAdd : ConOK Tryd.prog glb 95 sg_iFracAdd G_iFracAdd.spec := con_iFracAdd.as as_iFracAdd

def sg_iFracTimes : Sig := { args := [.ag [.e (.var 0), .e (.var 1), .e (.var 2)], .ag [.e (.var 3), .e (.var 4), .e (.var 5)]], pre := [], tin := [.int .i64, .int .i64, .int .i64, .int .i64, .int .i64, .int .i64], gin := [], res := .tu [.ag [.e (.var 0), .e (.var 1), .e (.var 2)], .s (.e (.var 3))], post := [], tout := [.int .i64, .int .i64, .int .i64, .bool], gout := [] }
def cl_iFracTimes : List (Nat × Sig) := [(87, sg_iFracValid), (79, sg_lowest)]
theorem run_iFracTimes : run ⟨Tryd.prog, glb, cl_iFracTimes⟩ [] Tryd.f93 sg_iFracTimes (Tryd.f93.body.getD .skip) = tr_iFracTimes := by kernel_rfl
theorem om_iFracTimes : ΩOK ⟨Tryd.prog, glb, cl_iFracTimes⟩ (specsOf Fs_iFracTimes) := (ΩOK_cons cong_iFracValid Tryd.call87 (ΩOK_cons cong_lowest Tryd.call79 ΩOK_nil))
theorem con_iFracTimes : ConOK Tryd.prog glb 93 sg_iFracTimes F_iFracTimes.spec := conOK_tree om_iFracTimes mixed Tryd.func93 (by kernel_rfl) run_iFracTimes
theorem cong_iFracTimes : ConOK Tryd.prog glb 93 sg_iFracTimes G_iFracTimes.spec := con_iFracTimes.as as_iFracTimes

def sg_sFracTimes : Sig := { args := [.ag [.e (.var 0), .e (.var 1), .e (.var 2)], .ag [.e (.var 3), .e (.var 4), .e (.var 5)]], pre := [], tin := [.int .i64, .int .i64, .int .i64, .int .i64, .int .i64, .int .i64], gin := [], res := .tu [.ag [.e (.var 0), .e (.var 1), .e (.var 2)], .s (.e (.var 3))], post := [], tout := [.int .i64, .int .i64, .int .i64, .bool], gout := [] }
def cl_sFracTimes : List (Nat × Sig) := [(47, sg_sFracValid), (86, sg_l2Low)]
theorem run_sFracTimes : run ⟨Tryd.prog, glb, cl_sFracTimes⟩ [] Tryd.f112 sg_sFracTimes (Tryd.f112.body.getD .skip) = tr_sFracTimes := by kernel_rfl
theorem om_sFracTimes : ΩOK ⟨Tryd.prog, glb, cl_sFracTimes⟩ (specsOf Fs_sFracTimes) := (ΩOK_cons cong_sFracValid Tryd.call47 (ΩOK_cons cong_l2Low Tryd.call86 ΩOK_nil))
theorem con_sFracTimes : ConOK Tryd.prog glb 112 sg_sFracTimes F_sFracTimes.spec := conOK_tree om_sFracTimes mixed Tryd.func112 (by kernel_rfl) run_sFracTimes
theorem cong_sFracTimes : ConOK Tryd.prog glb 112 sg_sFracTimes G_sFracTimes.spec := con_sFracTimes.as as_sFracTimes

def sg_keep : Sig := { args := [.s (.p (.own 0) 0), .ag [.e (.var 0), .e (.var 1), .e (.var 2)], .s (.e (.var 3))], pre := [⟨[.e (.var 4)], 84⟩], tin := [.int .i64, .int .i64, .int .i64, .bool, .bool], gin := [], res := .c (.ag [.e (.var 0), .e (.var 1), .e (.var 2)]), post := [⟨[.e (.var 3)], 84⟩], tout := [.int .i64, .int .i64, .int .i64, .bool], gout := [] }
def cl_keep : List (Nat × Sig) := []
theorem run_keep : run ⟨Tryd.prog, glb, cl_keep⟩ [] Tryd.f91 sg_keep (Tryd.f91.body.getD .skip) = tr_keep := by kernel_rfl
theorem om_keep : ΩOK ⟨Tryd.prog, glb, cl_keep⟩ (specsOf Fs_keep) := ΩOK_nil
theorem con_keep : ConOK Tryd.prog glb 91 sg_keep F_keep.spec := conOK_tree om_keep mixed Tryd.func91 (by kernel_rfl) run_keep

def sg_add : Sig := { args := [.s (.p (.own 0) 0), .ag [.e (.var 0), .e (.var 1), .e (.var 2)], .ag [.e (.var 3), .e (.var 4), .e (.var 5)]], pre := [⟨[.e (.var 6)], 84⟩], tin := [.int .i64, .int .i64, .int .i64, .int .i64, .int .i64, .int .i64, .bool], gin := [], res := .c (.ag [.e (.var 0), .e (.var 1), .e (.var 2)]), post := [⟨[.e (.var 3)], 84⟩], tout := [.int .i64, .int .i64, .int .i64, .bool], gout := [] }
def cl_add : List (Nat × Sig) := [(95, sg_iFracAdd), (91, sg_keep)]
theorem run_add : run ⟨Tryd.prog, glb, cl_add⟩ [] Tryd.f56 sg_add (Tryd.f56.body.getD .skip) = tr_add := by kernel_rfl
theorem om_add : ΩOK ⟨Tryd.prog, glb, cl_add⟩ (specsOf Fs_add) := (ΩOK_cons cong_iFracAdd Tryd.call95 (ΩOK_cons con_keep Tryd.call91 ΩOK_nil))
theorem con_add : ConOK Tryd.prog glb 56 sg_add F_add.spec := conOK_tree om_add mixed Tryd.func56 (by kernel_rfl) run_add
theorem cong_add : ConOK Tryd.prog glb 56 sg_add G_add.spec := con_add.as as_add

def sg_times : Sig := { args := [.s (.p (.own 0) 0), .ag [.e (.var 0), .e (.var 1), .e (.var 2)], .ag [.e (.var 3), .e (.var 4), .e (.var 5)]], pre := [⟨[.e (.var 6)], 84⟩], tin := [.int .i64, .int .i64, .int .i64, .int .i64, .int .i64, .int .i64, .bool], gin := [], res := .c (.ag [.e (.var 0), .e (.var 1), .e (.var 2)]), post := [⟨[.e (.var 3)], 84⟩], tout := [.int .i64, .int .i64, .int .i64, .bool], gout := [] }
def cl_times : List (Nat × Sig) := [(93, sg_iFracTimes), (91, sg_keep)]
theorem run_times : run ⟨Tryd.prog, glb, cl_times⟩ [] Tryd.f52 sg_times (Tryd.f52.body.getD .skip) = tr_times := by kernel_rfl
theorem om_times : ΩOK ⟨Tryd.prog, glb, cl_times⟩ (specsOf Fs_times) := (ΩOK_cons cong_iFracTimes Tryd.call93 (ΩOK_cons con_keep Tryd.call91 ΩOK_nil))
theorem con_times : ConOK Tryd.prog glb 52 sg_times F_times.spec := conOK_tree om_times mixed Tryd.func52 (by kernel_rfl) run_times
theorem cong_times : ConOK Tryd.prog glb 52 sg_times G_times.spec := con_times.as as_times

def sg_need : Sig := { args := [.s (.p (.own 0) 0), .s (.e (.var 0))], pre := [⟨[.e (.var 1)], 84⟩], tin := [.bool, .bool], gin := [], res := .c (.s (.p (.own 0) 0)), post := [⟨[.e (.var 0)], 84⟩], tout := [.bool], gout := [] }
def cl_need : List (Nat × Sig) := []
theorem run_need : run ⟨Tryd.prog, glb, cl_need⟩ [] Tryd.f49 sg_need (Tryd.f49.body.getD .skip) = tr_need := by kernel_rfl
theorem om_need : ΩOK ⟨Tryd.prog, glb, cl_need⟩ (specsOf Fs_need) := ΩOK_nil
theorem con_need : ConOK Tryd.prog glb 49 sg_need F_need.spec := conOK_tree om_need mixed Tryd.func49 (by kernel_rfl) run_need
theorem cong_need : ConOK Tryd.prog glb 49 sg_need G_need.spec := con_need.as as_need

def sg_toFrac : Sig := { args := [.ag [.e (.var 0), .e (.var 1), .e (.var 2)]], pre := [], tin := [.int .i64, .int .i64, .int .i64], gin := [], res := .c (.ag [.e (.var 0), .e (.var 1), .e (.var 2)]), post := [], tout := [.int .i64, .int .i64, .int .i64], gout := [] }
def cl_toFrac : List (Nat × Sig) := []
theorem run_toFrac : run ⟨Tryd.prog, glb, cl_toFrac⟩ [] Tryd.f83 sg_toFrac (Tryd.f83.body.getD .skip) = tr_toFrac := by kernel_rfl
theorem om_toFrac : ΩOK ⟨Tryd.prog, glb, cl_toFrac⟩ (specsOf Fs_toFrac) := ΩOK_nil
theorem con_toFrac : ConOK Tryd.prog glb 83 sg_toFrac F_toFrac.spec := conOK_tree om_toFrac mixed Tryd.func83 (by kernel_rfl) run_toFrac

def sg_eqFrac : Sig := { args := [.ag [.e (.var 0), .e (.var 1), .e (.var 2)], .ag [.e (.var 3), .e (.var 4), .e (.var 5)]], pre := [], tin := [.int .i64, .int .i64, .int .i64, .int .i64, .int .i64, .int .i64], gin := [], res := .c (.s (.e (.var 0))), post := [], tout := [.bool], gout := [] }
def cl_eqFrac : List (Nat × Sig) := []
theorem run_eqFrac : run ⟨Tryd.prog, glb, cl_eqFrac⟩ [] Tryd.f23 sg_eqFrac (Tryd.f23.body.getD .skip) = tr_eqFrac := by kernel_rfl
theorem om_eqFrac : ΩOK ⟨Tryd.prog, glb, cl_eqFrac⟩ (specsOf Fs_eqFrac) := ΩOK_nil
theorem con_eqFrac : ConOK Tryd.prog glb 23 sg_eqFrac F_eqFrac.spec := conOK_tree om_eqFrac mixed Tryd.func23 (by kernel_rfl) run_eqFrac
theorem cong_eqFrac : ConOK Tryd.prog glb 23 sg_eqFrac G_eqFrac.spec := con_eqFrac.as as_eqFrac

def sg_eqFracA16 : Sig := { args := [.ag [.e (.var 0), .e (.var 1), .e (.var 2), .e (.var 3), .e (.var 4), .e (.var 5), .e (.var 6), .e (.var 7), .e (.var 8), .e (.var 9), .e (.var 10), .e (.var 11), .e (.var 12), .e (.var 13), .e (.var 14), .e (.var 15), .e (.var 16), .e (.var 17), .e (.var 18), .e (.var 19), .e (.var 20), .e (.var 21), .e (.var 22), .e (.var 23), .e (.var 24), .e (.var 25), .e (.var 26), .e (.var 27), .e (.var 28), .e (.var 29), .e (.var 30), .e (.var 31), .e (.var 32), .e (.var 33), .e (.var 34), .e (.var 35), .e (.var 36), .e (.var 37), .e (.var 38), .e (.var 39), .e (.var 40), .e (.var 41), .e (.var 42), .e (.var 43), .e (.var 44), .e (.var 45), .e (.var 46), .e (.var 47)], .ag [.e (.var 48), .e (.var 49), .e (.var 50), .e (.var 51), .e (.var 52), .e (.var 53), .e (.var 54), .e (.var 55), .e (.var 56), .e (.var 57), .e (.var 58), .e (.var 59), .e (.var 60), .e (.var 61), .e (.var 62), .e (.var 63), .e (.var 64), .e (.var 65), .e (.var 66), .e (.var 67), .e (.var 68), .e (.var 69), .e (.var 70), .e (.var 71), .e (.var 72), .e (.var 73), .e (.var 74), .e (.var 75), .e (.var 76), .e (.var 77), .e (.var 78), .e (.var 79), .e (.var 80), .e (.var 81), .e (.var 82), .e (.var 83), .e (.var 84), .e (.var 85), .e (.var 86), .e (.var 87), .e (.var 88), .e (.var 89), .e (.var 90), .e (.var 91), .e (.var 92), .e (.var 93), .e (.var 94), .e (.var 95)]], pre := [], tin := [.int .i64, .int .i64, .int .i64, .int .i64, .int .i64, .int .i64, .int .i64, .int .i64, .int .i64, .int .i64, .int .i64, .int .i64, .int .i64, .int .i64, .int .i64, .int .i64, .int .i64, .int .i64, .int .i64, .int .i64, .int .i64, .int .i64, .int .i64, .int .i64, .int .i64, .int .i64, .int .i64, .int .i64, .int .i64, .int .i64, .int .i64, .int .i64, .int .i64, .int .i64, .int .i64, .int .i64, .int .i64, .int .i64, .int .i64, .int .i64, .int .i64, .int .i64, .int .i64, .int .i64, .int .i64, .int .i64, .int .i64, .int .i64, .int .i64, .int .i64, .int .i64, .int .i64, .int .i64, .int .i64, .int .i64, .int .i64, .int .i64, .int .i64, .int .i64, .int .i64, .int .i64, .int .i64, .int .i64, .int .i64, .int .i64, .int .i64, .int .i64, .int .i64, .int .i64, .int .i64, .int .i64, .int .i64, .int .i64, .int .i64, .int .i64, .int .i64, .int .i64, .int .i64, .int .i64, .int .i64, .int .i64, .int .i64, .int .i64, .int .i64, .int .i64, .int .i64, .int .i64, .int .i64, .int .i64, .int .i64, .int .i64, .int .i64, .int .i64, .int .i64, .int .i64, .int .i64], gin := [], res := .c (.s (.e (.var 0))), post := [], tout := [.bool], gout := [] }
def cl_eqFracA16 : List (Nat × Sig) := [(23, sg_eqFrac)]
theorem run_eqFracA16 : run ⟨Tryd.prog, glb, cl_eqFracA16⟩ [] Tryd.f73 sg_eqFracA16 (Tryd.f73.body.getD .skip) = tr_eqFracA16 := by kernel_rfl
theorem om_eqFracA16 : ΩOK ⟨Tryd.prog, glb, cl_eqFracA16⟩ (specsOf Fs_eqFracA16) := (ΩOK_cons cong_eqFrac Tryd.call23 ΩOK_nil)
theorem con_eqFracA16 : ConOK Tryd.prog glb 73 sg_eqFracA16 F_eqFracA16.spec := conOK_tree om_eqFracA16 mixed Tryd.func73 (by kernel_rfl) run_eqFracA16
theorem cong_eqFracA16 : ConOK Tryd.prog glb 73 sg_eqFracA16 G_eqFracA16.spec := con_eqFracA16.as as_eqFracA16

def sg_eqTable : Sig := { args := [.ag [.e (.var 0), .e (.var 1), .e (.var 2), .e (.var 3), .e (.var 4), .e (.var 5), .e (.var 6), .e (.var 7), .e (.var 8), .e (.var 9), .e (.var 10), .e (.var 11), .e (.var 12), .e (.var 13), .e (.var 14), .e (.var 15), .e (.var 16), .e (.var 17), .e (.var 18), .e (.var 19), .e (.var 20), .e (.var 21), .e (.var 22), .e (.var 23), .e (.var 24), .e (.var 25), .e (.var 26), .e (.var 27), .e (.var 28), .e (.var 29), .e (.var 30), .e (.var 31), .e (.var 32), .e (.var 33), .e (.var 34), .e (.var 35), .e (.var 36), .e (.var 37), .e (.var 38), .e (.var 39), .e (.var 40), .e (.var 41), .e (.var 42), .e (.var 43), .e (.var 44), .e (.var 45), .e (.var 46), .e (.var 47)], .ag [.e (.var 48), .e (.var 49), .e (.var 50), .e (.var 51), .e (.var 52), .e (.var 53), .e (.var 54), .e (.var 55), .e (.var 56), .e (.var 57), .e (.var 58), .e (.var 59), .e (.var 60), .e (.var 61), .e (.var 62), .e (.var 63), .e (.var 64), .e (.var 65), .e (.var 66), .e (.var 67), .e (.var 68), .e (.var 69), .e (.var 70), .e (.var 71), .e (.var 72), .e (.var 73), .e (.var 74), .e (.var 75), .e (.var 76), .e (.var 77), .e (.var 78), .e (.var 79), .e (.var 80), .e (.var 81), .e (.var 82), .e (.var 83), .e (.var 84), .e (.var 85), .e (.var 86), .e (.var 87), .e (.var 88), .e (.var 89), .e (.var 90), .e (.var 91), .e (.var 92), .e (.var 93), .e (.var 94), .e (.var 95)]], pre := [], tin := [.int .i64, .int .i64, .int .i64, .int .i64, .int .i64, .int .i64, .int .i64, .int .i64, .int .i64, .int .i64, .int .i64, .int .i64, .int .i64, .int .i64, .int .i64, .int .i64, .int .i64, .int .i64, .int .i64, .int .i64, .int .i64, .int .i64, .int .i64, .int .i64, .int .i64, .int .i64, .int .i64, .int .i64, .int .i64, .int .i64, .int .i64, .int .i64, .int .i64, .int .i64, .int .i64, .int .i64, .int .i64, .int .i64, .int .i64, .int .i64, .int .i64, .int .i64, .int .i64, .int .i64, .int .i64, .int .i64, .int .i64, .int .i64, .int .i64, .int .i64, .int .i64, .int .i64, .int .i64, .int .i64, .int .i64, .int .i64, .int .i64, .int .i64, .int .i64, .int .i64, .int .i64, .int .i64, .int .i64, .int .i64, .int .i64, .int .i64, .int .i64, .int .i64, .int .i64, .int .i64, .int .i64, .int .i64, .int .i64, .int .i64, .int .i64, .int .i64, .int .i64, .int .i64, .int .i64, .int .i64, .int .i64, .int .i64, .int .i64, .int .i64, .int .i64, .int .i64, .int .i64, .int .i64, .int .i64, .int .i64, .int .i64, .int .i64, .int .i64, .int .i64, .int .i64, .int .i64], gin := [], res := .c (.s (.e (.var 0))), post := [], tout := [.bool], gout := [] }
def cl_eqTable : List (Nat × Sig) := [(73, sg_eqFracA16)]
theorem run_eqTable : run ⟨Tryd.prog, glb, cl_eqTable⟩ [] Tryd.f27 sg_eqTable (Tryd.f27.body.getD .skip) = tr_eqTable := by kernel_rfl
theorem om_eqTable : ΩOK ⟨Tryd.prog, glb, cl_eqTable⟩ (specsOf Fs_eqTable) := (ΩOK_cons cong_eqFracA16 Tryd.call73 ΩOK_nil)
theorem con_eqTable : ConOK Tryd.prog glb 27 sg_eqTable F_eqTable.spec := conOK_tree om_eqTable mixed Tryd.func27 (by kernel_rfl) run_eqTable
theorem cong_eqTable : ConOK Tryd.prog glb 27 sg_eqTable G_eqTable.spec := con_eqTable.as as_eqTable

def sg_gotTable : Sig := { args := [.s (.p (.own 0) 0), .ag [.e (.var 0), .e (.var 1), .e (.var 2), .e (.var 3), .e (.var 4), .e (.var 5), .e (.var 6), .e (.var 7), .e (.var 8), .e (.var 9), .e (.var 10), .e (.var 11), .e (.var 12), .e (.var 13), .e (.var 14), .e (.var 15), .e (.var 16), .e (.var 17), .e (.var 18), .e (.var 19), .e (.var 20), .e (.var 21), .e (.var 22), .e (.var 23), .e (.var 24), .e (.var 25), .e (.var 26), .e (.var 27), .e (.var 28), .e (.var 29), .e (.var 30), .e (.var 31), .e (.var 32), .e (.var 33), .e (.var 34), .e (.var 35), .e (.var 36), .e (.var 37), .e (.var 38), .e (.var 39), .e (.var 40), .e (.var 41), .e (.var 42), .e (.var 43), .e (.var 44), .e (.var 45), .e (.var 46), .e (.var 47)]], pre := [⟨[.e (.var 48)], 84⟩], tin := [.int .i64, .int .i64, .int .i64, .int .i64, .int .i64, .int .i64, .int .i64, .int .i64, .int .i64, .int .i64, .int .i64, .int .i64, .int .i64, .int .i64, .int .i64, .int .i64, .int .i64, .int .i64, .int .i64, .int .i64, .int .i64, .int .i64, .int .i64, .int .i64, .int .i64, .int .i64, .int .i64, .int .i64, .int .i64, .int .i64, .int .i64, .int .i64, .int .i64, .int .i64, .int .i64, .int .i64, .int .i64, .int .i64, .int .i64, .int .i64, .int .i64, .int .i64, .int .i64, .int .i64, .int .i64, .int .i64, .int .i64, .int .i64, .bool], gin := [], res := .tu [.ag [.e (.var 0), .e (.var 1), .e (.var 2), .e (.var 3), .e (.var 4), .e (.var 5), .e (.var 6), .e (.var 7), .e (.var 8), .e (.var 9), .e (.var 10), .e (.var 11), .e (.var 12), .e (.var 13), .e (.var 14), .e (.var 15), .e (.var 16), .e (.var 17), .e (.var 18), .e (.var 19), .e (.var 20), .e (.var 21), .e (.var 22), .e (.var 23), .e (.var 24), .e (.var 25), .e (.var 26), .e (.var 27), .e (.var 28), .e (.var 29), .e (.var 30), .e (.var 31), .e (.var 32), .e (.var 33), .e (.var 34), .e (.var 35), .e (.var 36), .e (.var 37), .e (.var 38), .e (.var 39), .e (.var 40), .e (.var 41), .e (.var 42), .e (.var 43), .e (.var 44), .e (.var 45), .e (.var 46), .e (.var 47)], .s (.e (.var 48))], post := [⟨[.e (.var 49)], 84⟩], tout := [.int .i64, .int .i64, .int .i64, .int .i64, .int .i64, .int .i64, .int .i64, .int .i64, .int .i64, .int .i64, .int .i64, .int .i64, .int .i64, .int .i64, .int .i64, .int .i64, .int .i64, .int .i64, .int .i64, .int .i64, .int .i64, .int .i64, .int .i64, .int .i64, .int .i64, .int .i64, .int .i64, .int .i64, .int .i64, .int .i64, .int .i64, .int .i64, .int .i64, .int .i64, .int .i64, .int .i64, .int .i64, .int .i64, .int .i64, .int .i64, .int .i64, .int .i64, .int .i64, .int .i64, .int .i64, .int .i64, .int .i64, .int .i64, .bool, .bool], gout := [] }
def cl_gotTable : List (Nat × Sig) := []
theorem run_gotTable : run ⟨Tryd.prog, glb, cl_gotTable⟩ [] Tryd.f72 sg_gotTable (Tryd.f72.body.getD .skip) = tr_gotTable := by kernel_rfl
theorem om_gotTable : ΩOK ⟨Tryd.prog, glb, cl_gotTable⟩ (specsOf Fs_gotTable) := ΩOK_nil
theorem con_gotTable : ConOK Tryd.prog glb 72 sg_gotTable F_gotTable.spec := conOK_tree om_gotTable mixed Tryd.func72 (by kernel_rfl) run_gotTable
theorem cong_gotTable : ConOK Tryd.prog glb 72 sg_gotTable G_gotTable.spec := con_gotTable.as as_gotTable

def sg_toFracA4 : Sig := { args := [.ag [.e (.var 0), .e (.var 1), .e (.var 2), .e (.var 3), .e (.var 4), .e (.var 5), .e (.var 6), .e (.var 7), .e (.var 8), .e (.var 9), .e (.var 10), .e (.var 11)]], pre := [], tin := [.int .i64, .int .i64, .int .i64, .int .i64, .int .i64, .int .i64, .int .i64, .int .i64, .int .i64, .int .i64, .int .i64, .int .i64], gin := [], res := .c (.ag [.e (.var 0), .e (.var 1), .e (.var 2), .e (.var 3), .e (.var 4), .e (.var 5), .e (.var 6), .e (.var 7), .e (.var 8), .e (.var 9), .e (.var 10), .e (.var 11)]), post := [], tout := [.int .i64, .int .i64, .int .i64, .int .i64, .int .i64, .int .i64, .int .i64, .int .i64, .int .i64, .int .i64, .int .i64, .int .i64], gout := [] }
def cl_toFracA4 : List (Nat × Sig) := [(83, sg_toFrac)]
theorem run_toFracA4 : run ⟨Tryd.prog, glb, cl_toFracA4⟩ [] Tryd.f67 sg_toFracA4 (Tryd.f67.body.getD .skip) = tr_toFracA4 := by kernel_rfl
theorem om_toFracA4 : ΩOK ⟨Tryd.prog, glb, cl_toFracA4⟩ (specsOf Fs_toFracA4) := (ΩOK_cons con_toFrac Tryd.call83 ΩOK_nil)
theorem con_toFracA4 : ConOK Tryd.prog glb 67 sg_toFracA4 F_toFracA4.spec := conOK_tree om_toFracA4 mixed Tryd.func67 (by kernel_rfl) run_toFracA4

def sg_toMat : Sig := { args := [.ag [.e (.var 0), .e (.var 1), .e (.var 2), .e (.var 3), .e (.var 4), .e (.var 5), .e (.var 6), .e (.var 7), .e (.var 8), .e (.var 9), .e (.var 10), .e (.var 11)]], pre := [], tin := [.int .i64, .int .i64, .int .i64, .int .i64, .int .i64, .int .i64, .int .i64, .int .i64, .int .i64, .int .i64, .int .i64, .int .i64], gin := [], res := .c (.ag [.e (.var 0), .e (.var 1), .e (.var 2), .e (.var 3), .e (.var 4), .e (.var 5), .e (.var 6), .e (.var 7), .e (.var 8), .e (.var 9), .e (.var 10), .e (.var 11)]), post := [], tout := [.int .i64, .int .i64, .int .i64, .int .i64, .int .i64, .int .i64, .int .i64, .int .i64, .int .i64, .int .i64, .int .i64, .int .i64], gout := [] }
def cl_toMat : List (Nat × Sig) := [(67, sg_toFracA4)]
theorem run_toMat : run ⟨Tryd.prog, glb, cl_toMat⟩ [] Tryd.f25 sg_toMat (Tryd.f25.body.getD .skip) = tr_toMat := by kernel_rfl
theorem om_toMat : ΩOK ⟨Tryd.prog, glb, cl_toMat⟩ (specsOf Fs_toMat) := (ΩOK_cons con_toFracA4 Tryd.call67 ΩOK_nil)
theorem con_toMat : ConOK Tryd.prog glb 25 sg_toMat F_toMat.spec := conOK_tree om_toMat mixed Tryd.func25 (by kernel_rfl) run_toMat
theorem cong_toMat : ConOK Tryd.prog glb 25 sg_toMat G_toMat.spec := con_toMat.as as_toMat

def sg_iMatValid : Sig := { args := [.ag [.e (.var 0), .e (.var 1), .e (.var 2), .e (.var 3), .e (.var 4), .e (.var 5), .e (.var 6), .e (.var 7), .e (.var 8), .e (.var 9), .e (.var 10), .e (.var 11)]], pre := [], tin := [.int .i64, .int .i64, .int .i64, .int .i64, .int .i64, .int .i64, .int .i64, .int .i64, .int .i64, .int .i64, .int .i64, .int .i64], gin := [], res := .c (.s (.e (.var 0))), post := [], tout := [.bool], gout := [] }
def cl_iMatValid : List (Nat × Sig) := [(87, sg_iFracValid)]
theorem run_iMatValid : run ⟨Tryd.prog, glb, cl_iMatValid⟩ [] Tryd.f68 sg_iMatValid (Tryd.f68.body.getD .skip) = tr_iMatValid := by kernel_rfl
theorem om_iMatValid : ΩOK ⟨Tryd.prog, glb, cl_iMatValid⟩ (specsOf Fs_iMatValid) := (ΩOK_cons cong_iFracValid Tryd.call87 ΩOK_nil)
theorem con_iMatValid : ConOK Tryd.prog glb 68 sg_iMatValid F_iMatValid.spec := conOK_tree om_iMatValid mixed Tryd.func68 (by kernel_rfl) run_iMatValid
theorem cong_iMatValid : ConOK Tryd.prog glb 68 sg_iMatValid G_iMatValid.spec := con_iMatValid.as as_iMatValid

def sg_sMatValid : Sig := { args := [.ag [.e (.var 0), .e (.var 1), .e (.var 2), .e (.var 3), .e (.var 4), .e (.var 5), .e (.var 6), .e (.var 7), .e (.var 8), .e (.var 9), .e (.var 10), .e (.var 11)]], pre := [], tin := [.int .i64, .int .i64, .int .i64, .int .i64, .int .i64, .int .i64, .int .i64, .int .i64, .int .i64, .int .i64, .int .i64, .int .i64], gin := [], res := .c (.s (.e (.var 0))), post := [], tout := [.bool], gout := [] }
def cl_sMatValid : List (Nat × Sig) := [(47, sg_sFracValid)]
theorem run_sMatValid : run ⟨Tryd.prog, glb, cl_sMatValid⟩ [] Tryd.f64 sg_sMatValid (Tryd.f64.body.getD .skip) = tr_sMatValid := by kernel_rfl
theorem om_sMatValid : ΩOK ⟨Tryd.prog, glb, cl_sMatValid⟩ (specsOf Fs_sMatValid) := (ΩOK_cons cong_sFracValid Tryd.call47 ΩOK_nil)
theorem con_sMatValid : ConOK Tryd.prog glb 64 sg_sMatValid F_sMatValid.spec := conOK_tree om_sMatValid mixed Tryd.func64 (by kernel_rfl) run_sMatValid
theorem cong_sMatValid : ConOK Tryd.prog glb 64 sg_sMatValid G_sMatValid.spec := con_sMatValid.as as_sMatValid

def sg_iFracLess : Sig := { args := [.ag [.e (.var 0), .e (.var 1), .e (.var 2)], .ag [.e (.var 3), .e (.var 4), .e (.var 5)]], pre := [], tin := [.int .i64, .int .i64, .int .i64, .int .i64, .int .i64, .int .i64], gin := [], res := .tu [.ag [.e (.var 0), .e (.var 1), .e (.var 2)], .s (.e (.var 3))], post := [], tout := [.int .i64, .int .i64, .int .i64, .bool], gout := [] }
def cl_iFracLess : List (Nat × Sig) := [(87, sg_iFracValid), (79, sg_lowest)]
theorem run_iFracLess : run ⟨Tryd.prog, glb, cl_iFracLess⟩ [] Tryd.f96 sg_iFracLess (Tryd.f96.body.getD .skip) = tr_iFracLess := by kernel_rfl
theorem om_iFracLess : ΩOK ⟨Tryd.prog, glb, cl_iFracLess⟩ (specsOf Fs_iFracLess) := (ΩOK_cons cong_iFracValid Tryd.call87 (ΩOK_cons cong_lowest Tryd.call79 ΩOK_nil))
theorem con_iFracLess : ConOK Tryd.prog glb 96 sg_iFracLess F_iFracLess.spec := conOK_tree om_iFracLess mixed Tryd.func96 (by kernel_rfl) run_iFracLess
theorem cong_iFracLess : ConOK Tryd.prog glb 96 sg_iFracLess G_iFracLess.spec := con_iFracLess.as as_iFracLess

def sg_iFracMirror : Sig := { args := [.ag [.e (.var 0), .e (.var 1), .e (.var 2)]], pre := [], tin := [.int .i64, .int .i64, .int .i64], gin := [], res := .tu [.ag [.e (.var 0), .e (.var 1), .e (.var 2)], .s (.e (.var 3))], post := [], tout := [.int .i64, .int .i64, .int .i64, .bool], gout := [] }
def cl_iFracMirror : List (Nat × Sig) := [(87, sg_iFracValid)]
theorem run_iFracMirror : run ⟨Tryd.prog, glb, cl_iFracMirror⟩ [] Tryd.f94 sg_iFracMirror (Tryd.f94.body.getD .skip) = tr_iFracMirror := by kernel_rfl
theorem om_iFracMirror : ΩOK ⟨Tryd.prog, glb, cl_iFracMirror⟩ (specsOf Fs_iFracMirror) := (ΩOK_cons cong_iFracValid Tryd.call87 ΩOK_nil)
theorem con_iFracMirror : ConOK Tryd.prog glb 94 sg_iFracMirror F_iFracMirror.spec := conOK_tree om_iFracMirror mixed Tryd.func94 (by kernel_rfl) run_iFracMirror
theorem cong_iFracMirror : ConOK Tryd.prog glb 94 sg_iFracMirror G_iFracMirror.spec := con_iFracMirror.as as_iFracMirror

def sg_sFracMirror : Sig := { args := [.ag [.e (.var 0), .e (.var 1), .e (.var 2)]], pre := [], tin := [.int .i64, .int .i64, .int .i64], gin := [], res := .tu [.ag [.e (.var 0), .e (.var 1), .e (.var 2)], .s (.e (.var 3))], post := [], tout := [.int .i64, .int .i64, .int .i64, .bool], gout := [] }
def cl_sFracMirror : List (Nat × Sig) := [(47, sg_sFracValid)]
theorem run_sFracMirror : run ⟨Tryd.prog, glb, cl_sFracMirror⟩ [] Tryd.f111 sg_sFracMirror (Tryd.f111.body.getD .skip) = tr_sFracMirror := by kernel_rfl
theorem om_sFracMirror : ΩOK ⟨Tryd.prog, glb, cl_sFracMirror⟩ (specsOf Fs_sFracMirror) := (ΩOK_cons cong_sFracValid Tryd.call47 ΩOK_nil)
theorem con_sFracMirror : ConOK Tryd.prog glb 111 sg_sFracMirror F_sFracMirror.spec := conOK_tree om_sFracMirror mixed Tryd.func111 (by kernel_rfl) run_sFracMirror
theorem cong_sFracMirror : ConOK Tryd.prog glb 111 sg_sFracMirror G_sFracMirror.spec := con_sFracMirror.as as_sFracMirror

def sg_iFracPower : Sig := { args := [.ag [.e (.var 0), .e (.var 1), .e (.var 2)]], pre := [], tin := [.int .i64, .int .i64, .int .i64], gin := [], res := .tu [.ag [.e (.var 0), .e (.var 1), .e (.var 2)], .s (.e (.var 3))], post := [], tout := [.int .i64, .int .i64, .int .i64, .bool], gout := [] }
def cl_iFracPower : List (Nat × Sig) := [(87, sg_iFracValid), (79, sg_lowest)]
theorem run_iFracPower : run ⟨Tryd.prog, glb, cl_iFracPower⟩ [] Tryd.f92 sg_iFracPower (Tryd.f92.body.getD .skip) = tr_iFracPower := by kernel_rfl
theorem om_iFracPower : ΩOK ⟨Tryd.prog, glb, cl_iFracPower⟩ (specsOf Fs_iFracPower) := (ΩOK_cons cong_iFracValid Tryd.call87 (ΩOK_cons cong_lowest Tryd.call79 ΩOK_nil))
theorem con_iFracPower : ConOK Tryd.prog glb 92 sg_iFracPower F_iFracPower.spec := conOK_tree om_iFracPower mixed Tryd.func92 (by kernel_rfl) run_iFracPower
theorem cong_iFracPower : ConOK Tryd.prog glb 92 sg_iFracPower G_iFracPower.spec := con_iFracPower.as as_iFracPower

def sg_iHalf : Sig := { args := [.ag [.e (.var 0), .e (.var 1), .e (.var 2)], .ag [.e (.int .i64 (2)), .e (.int .i64 (0)), .e (.int .i64 (1))]], pre := [], tin := [.int .i64, .int .i64, .int .i64], gin := [], res := .tu [.ag [.e (.var 0), .e (.var 1), .e (.var 2)], .s (.e (.var 3))], post := [], tout := [.int .i64, .int .i64, .int .i64, .bool], gout := [] }
def cl_iHalf : List (Nat × Sig) := [(87, sg_iFracValid), (79, sg_lowest), (93, sg_iFracTimes)]
theorem run_iHalf : run ⟨Tryd.prog, glb, cl_iHalf⟩ [] Tryd.f100 sg_iHalf (Tryd.f100.body.getD .skip) = tr_iHalf := by kernel_rfl
theorem om_iHalf : ΩOK ⟨Tryd.prog, glb, cl_iHalf⟩ (specsOf Fs_iHalf) := (ΩOK_cons cong_iFracValid Tryd.call87 (ΩOK_cons cong_lowest Tryd.call79 (ΩOK_cons cong_iFracTimes Tryd.call93 ΩOK_nil)))
theorem con_iHalf : ConOK Tryd.prog glb 100 sg_iHalf F_iHalf.spec := conOK_tree om_iHalf mixed Tryd.func100 (by kernel_rfl) run_iHalf
theorem cong_iHalf : ConOK Tryd.prog glb 100 sg_iHalf G_iHalf.spec := con_iHalf.as as_iHalf

def sg_whole2 : Sig := { args := [.s (.e (.int .i64 (2)))], pre := [], tin := [], gin := [], res := .c (.ag [.e (.int .i64 (2)), .e (.int .i64 (0)), .e (.int .i64 (1))]), post := [], tout := [], gout := [] }
def cl_whole2 : List (Nat × Sig) := []
theorem run_whole2 : run ⟨Tryd.prog, glb, cl_whole2⟩ [] Tryd.f54 sg_whole2 (Tryd.f54.body.getD .skip) = tr_whole2 := by kernel_rfl
theorem om_whole2 : ΩOK ⟨Tryd.prog, glb, cl_whole2⟩ (specsOf Fs_whole2) := ΩOK_nil
theorem con_whole2 : ConOK Tryd.prog glb 54 sg_whole2 F_whole2.spec := conOK_tree om_whole2 mixed Tryd.func54 (by kernel_rfl) run_whole2

def sg_less : Sig := { args := [.s (.p (.own 0) 0), .ag [.e (.var 0), .e (.var 1), .e (.var 2)], .ag [.e (.var 3), .e (.var 4), .e (.var 5)]], pre := [⟨[.e (.var 6)], 84⟩], tin := [.int .i64, .int .i64, .int .i64, .int .i64, .int .i64, .int .i64, .bool], gin := [], res := .c (.ag [.e (.var 0), .e (.var 1), .e (.var 2)]), post := [⟨[.e (.var 3)], 84⟩], tout := [.int .i64, .int .i64, .int .i64, .bool], gout := [] }
def cl_less : List (Nat × Sig) := [(96, sg_iFracLess), (91, sg_keep)]
theorem run_less : run ⟨Tryd.prog, glb, cl_less⟩ [] Tryd.f57 sg_less (Tryd.f57.body.getD .skip) = tr_less := by kernel_rfl
theorem om_less : ΩOK ⟨Tryd.prog, glb, cl_less⟩ (specsOf Fs_less) := (ΩOK_cons cong_iFracLess Tryd.call96 (ΩOK_cons con_keep Tryd.call91 ΩOK_nil))
theorem con_less : ConOK Tryd.prog glb 57 sg_less F_less.spec := conOK_tree om_less mixed Tryd.func57 (by kernel_rfl) run_less
theorem cong_less : ConOK Tryd.prog glb 57 sg_less G_less.spec := con_less.as as_less

def sg_mirror : Sig := { args := [.s (.p (.own 0) 0), .ag [.e (.var 0), .e (.var 1), .e (.var 2)]], pre := [⟨[.e (.var 3)], 84⟩], tin := [.int .i64, .int .i64, .int .i64, .bool], gin := [], res := .c (.ag [.e (.var 0), .e (.var 1), .e (.var 2)]), post := [⟨[.e (.var 3)], 84⟩], tout := [.int .i64, .int .i64, .int .i64, .bool], gout := [] }
def cl_mirror : List (Nat × Sig) := [(94, sg_iFracMirror), (91, sg_keep)]
theorem run_mirror : run ⟨Tryd.prog, glb, cl_mirror⟩ [] Tryd.f53 sg_mirror (Tryd.f53.body.getD .skip) = tr_mirror := by kernel_rfl
theorem om_mirror : ΩOK ⟨Tryd.prog, glb, cl_mirror⟩ (specsOf Fs_mirror) := (ΩOK_cons cong_iFracMirror Tryd.call94 (ΩOK_cons con_keep Tryd.call91 ΩOK_nil))
theorem con_mirror : ConOK Tryd.prog glb 53 sg_mirror F_mirror.spec := conOK_tree om_mirror mixed Tryd.func53 (by kernel_rfl) run_mirror
theorem cong_mirror : ConOK Tryd.prog glb 53 sg_mirror G_mirror.spec := con_mirror.as as_mirror

def sg_power : Sig := { args := [.s (.p (.own 0) 0), .ag [.e (.var 0), .e (.var 1), .e (.var 2)]], pre := [⟨[.e (.var 3)], 84⟩], tin := [.int .i64, .int .i64, .int .i64, .bool], gin := [], res := .c (.ag [.e (.var 0), .e (.var 1), .e (.var 2)]), post := [⟨[.e (.var 3)], 84⟩], tout := [.int .i64, .int .i64, .int .i64, .bool], gout := [] }
def cl_power : List (Nat × Sig) := [(92, sg_iFracPower), (91, sg_keep)]
theorem run_power : run ⟨Tryd.prog, glb, cl_power⟩ [] Tryd.f51 sg_power (Tryd.f51.body.getD .skip) = tr_power := by kernel_rfl
theorem om_power : ΩOK ⟨Tryd.prog, glb, cl_power⟩ (specsOf Fs_power) := (ΩOK_cons cong_iFracPower Tryd.call92 (ΩOK_cons con_keep Tryd.call91 ΩOK_nil))
theorem con_power : ConOK Tryd.prog glb 51 sg_power F_power.spec := conOK_tree om_power mixed Tryd.func51 (by kernel_rfl) run_power
theorem cong_power : ConOK Tryd.prog glb 51 sg_power G_power.spec := con_power.as as_power

def sg_overTwo : Sig := { args := [.s (.p (.own 0) 0), .ag [.e (.var 0), .e (.var 1), .e (.var 2)], .ag [.e (.int .i64 (2)), .e (.int .i64 (0)), .e (.int .i64 (1))]], pre := [⟨[.e (.var 3)], 84⟩], tin := [.int .i64, .int .i64, .int .i64, .bool], gin := [], res := .c (.ag [.e (.var 0), .e (.var 1), .e (.var 2)]), post := [⟨[.e (.var 3)], 84⟩], tout := [.int .i64, .int .i64, .int .i64, .bool], gout := [] }
def cl_overTwo : List (Nat × Sig) := [(100, sg_iHalf), (91, sg_keep)]
theorem run_overTwo : run ⟨Tryd.prog, glb, cl_overTwo⟩ [] Tryd.f71 sg_overTwo (Tryd.f71.body.getD .skip) = tr_overTwo := by kernel_rfl
theorem om_overTwo : ΩOK ⟨Tryd.prog, glb, cl_overTwo⟩ (specsOf Fs_overTwo) := (ΩOK_cons cong_iHalf Tryd.call100 (ΩOK_cons con_keep Tryd.call91 ΩOK_nil))
theorem con_overTwo : ConOK Tryd.prog glb 71 sg_overTwo F_overTwo.spec := conOK_tree om_overTwo mixed Tryd.func71 (by kernel_rfl) run_overTwo
theorem cong_overTwo : ConOK Tryd.prog glb 71 sg_overTwo G_overTwo.spec := con_overTwo.as as_overTwo

def sg_real : Sig := { args := [.s (.p (.own 0) 0), .ag [.e (.var 0), .e (.var 1), .e (.var 2)]], pre := [⟨[.e (.var 3)], 84⟩], tin := [.int .i64, .int .i64, .int .i64, .bool], gin := [], res := .c (.ag [.e (.var 0), .e (.var 1), .e (.var 2)]), post := [⟨[.e (.var 3)], 84⟩], tout := [.int .i64, .int .i64, .int .i64, .bool], gout := [] }
def cl_real : List (Nat × Sig) := [(87, sg_iFracValid), (79, sg_lowest), (91, sg_keep)]
theorem run_real : run ⟨Tryd.prog, glb, cl_real⟩ [] Tryd.f58 sg_real (Tryd.f58.body.getD .skip) = tr_real := by kernel_rfl
theorem om_real : ΩOK ⟨Tryd.prog, glb, cl_real⟩ (specsOf Fs_real) := (ΩOK_cons cong_iFracValid Tryd.call87 (ΩOK_cons cong_lowest Tryd.call79 (ΩOK_cons con_keep Tryd.call91 ΩOK_nil)))
theorem con_real : ConOK Tryd.prog glb 58 sg_real F_real.spec := conOK_tree om_real mixed Tryd.func58 (by kernel_rfl) run_real
theorem cong_real : ConOK Tryd.prog glb 58 sg_real G_real.spec := con_real.as as_real

def sg_imag : Sig := { args := [.s (.p (.own 0) 0), .ag [.e (.var 0), .e (.var 1), .e (.var 2)]], pre := [⟨[.e (.var 3)], 84⟩], tin := [.int .i64, .int .i64, .int .i64, .bool], gin := [], res := .c (.ag [.e (.var 0), .e (.var 1), .e (.var 2)]), post := [⟨[.e (.var 3)], 84⟩], tout := [.int .i64, .int .i64, .int .i64, .bool], gout := [] }
def cl_imag : List (Nat × Sig) := [(87, sg_iFracValid), (79, sg_lowest), (91, sg_keep)]
theorem run_imag : run ⟨Tryd.prog, glb, cl_imag⟩ [] Tryd.f59 sg_imag (Tryd.f59.body.getD .skip) = tr_imag := by kernel_rfl
theorem om_imag : ΩOK ⟨Tryd.prog, glb, cl_imag⟩ (specsOf Fs_imag) := (ΩOK_cons cong_iFracValid Tryd.call87 (ΩOK_cons cong_lowest Tryd.call79 (ΩOK_cons con_keep Tryd.call91 ΩOK_nil)))
theorem con_imag : ConOK Tryd.prog glb 59 sg_imag F_imag.spec := conOK_tree om_imag mixed Tryd.func59 (by kernel_rfl) run_imag
theorem cong_imag : ConOK Tryd.prog glb 59 sg_imag G_imag.spec := con_imag.as as_imag

def sg_iPair : Sig := { args := [.ag [.e (.var 0), .e (.var 1), .e (.var 2)], .ag [.e (.var 3), .e (.var 4), .e (.var 5)], .s (.p (.own 0) 0)], pre := [⟨[.p (.own 1) 0], 82⟩, ⟨[.e (.var 6)], 84⟩], tin := [.int .i64, .int .i64, .int .i64, .int .i64, .int .i64, .int .i64, .bool], gin := [], res := .c (.ag [.e (.var 0), .e (.var 1), .e (.var 2)]), post := [⟨[.p (.own 1) 0], 82⟩, ⟨[.e (.var 3)], 84⟩], tout := [.int .i64, .int .i64, .int .i64, .bool], gout := [] }
def cl_iPair : List (Nat × Sig) := [(53, sg_mirror), (52, sg_times)]
theorem run_iPair : run ⟨Tryd.prog, glb, cl_iPair⟩ [] Tryd.f69 sg_iPair (Tryd.f69.body.getD .skip) = tr_iPair := by kernel_rfl
theorem om_iPair : ΩOK ⟨Tryd.prog, glb, cl_iPair⟩ (specsOf Fs_iPair) := (ΩOK_cons cong_mirror Tryd.call53 (ΩOK_cons cong_times Tryd.call52 ΩOK_nil))
theorem con_iPair : ConOK Tryd.prog glb 69 sg_iPair F_iPair.spec := conOK_tree om_iPair mixed Tryd.func69 (by kernel_rfl) run_iPair
theorem cong_iPair : ConOK Tryd.prog glb 69 sg_iPair G_iPair.spec := con_iPair.as as_iPair

def sg_iHalfS : Sig := { args := [.ag [.e (.var 0), .e (.var 1), .e (.var 2)], .s (.p (.own 0) 0)], pre := [⟨[.p (.own 1) 0], 82⟩, ⟨[.e (.var 3)], 84⟩], tin := [.int .i64, .int .i64, .int .i64, .bool], gin := [], res := .c (.ag [.e (.var 0), .e (.var 1), .e (.var 2)]), post := [⟨[.p (.own 1) 0], 82⟩, ⟨[.e (.var 3)], 84⟩], tout := [.int .i64, .int .i64, .int .i64, .bool], gout := [] }
def cl_iHalfS : List (Nat × Sig) := [(54, sg_whole2), (71, sg_overTwo)]
theorem run_iHalfS : run ⟨Tryd.prog, glb, cl_iHalfS⟩ [] Tryd.f70 sg_iHalfS (Tryd.f70.body.getD .skip) = tr_iHalfS := by kernel_rfl
theorem om_iHalfS : ΩOK ⟨Tryd.prog, glb, cl_iHalfS⟩ (specsOf Fs_iHalfS) := (ΩOK_cons con_whole2 Tryd.call54 (ΩOK_cons cong_overTwo Tryd.call71 ΩOK_nil))
theorem con_iHalfS : ConOK Tryd.prog glb 70 sg_iHalfS F_iHalfS.spec := conOK_tree om_iHalfS mixed Tryd.func70 (by kernel_rfl) run_iHalfS
theorem cong_iHalfS : ConOK Tryd.prog glb 70 sg_iHalfS G_iHalfS.spec := con_iHalfS.as as_iHalfS

def sg_l2SumP : Sig := { args := [.ag [.e (.var 0), .e (.var 1), .e (.var 2)], .s (.e (.int .i64 (1))), .ag [.e (.var 3), .e (.var 4), .e (.var 5)]], pre := [], tin := [.int .i64, .int .i64, .int .i64, .int .i64, .int .i64, .int .i64], gin := [], res := .tu [.ag [.e (.var 0), .e (.var 1), .e (.var 2)], .s (.e (.var 3))], post := [], tout := [.int .i64, .int .i64, .int .i64, .bool], gout := [] }
def cl_l2SumP : List (Nat × Sig) := [(47, sg_sFracValid), (86, sg_l2Low)]
theorem run_l2SumP : run ⟨Tryd.prog, glb, cl_l2SumP⟩ [] Tryd.f113 sg_l2SumP (Tryd.f113.body.getD .skip) = tr_l2SumP := by kernel_rfl
theorem om_l2SumP : ΩOK ⟨Tryd.prog, glb, cl_l2SumP⟩ (specsOf Fs_l2SumP) := (ΩOK_cons cong_sFracValid Tryd.call47 (ΩOK_cons cong_l2Low Tryd.call86 ΩOK_nil))
theorem con_l2SumP : ConOK Tryd.prog glb 113 sg_l2SumP F_l2SumP.spec := conOK_tree om_l2SumP mixed Tryd.func113 (by kernel_rfl) run_l2SumP
theorem cong_l2SumP : ConOK Tryd.prog glb 113 sg_l2SumP G_l2SumP.spec := con_l2SumP.as as_l2SumP

def sg_l2SumM : Sig := { args := [.ag [.e (.var 0), .e (.var 1), .e (.var 2)], .s (.e (.int .i64 (-1))), .ag [.e (.var 3), .e (.var 4), .e (.var 5)]], pre := [], tin := [.int .i64, .int .i64, .int .i64, .int .i64, .int .i64, .int .i64], gin := [], res := .tu [.ag [.e (.var 0), .e (.var 1), .e (.var 2)], .s (.e (.var 3))], post := [], tout := [.int .i64, .int .i64, .int .i64, .bool], gout := [] }
def cl_l2SumM : List (Nat × Sig) := [(47, sg_sFracValid), (86, sg_l2Low)]
theorem run_l2SumM : run ⟨Tryd.prog, glb, cl_l2SumM⟩ [] Tryd.f113 sg_l2SumM (Tryd.f113.body.getD .skip) = tr_l2SumM := by kernel_rfl
theorem om_l2SumM : ΩOK ⟨Tryd.prog, glb, cl_l2SumM⟩ (specsOf Fs_l2SumM) := (ΩOK_cons cong_sFracValid Tryd.call47 (ΩOK_cons cong_l2Low Tryd.call86 ΩOK_nil))
theorem con_l2SumM : ConOK Tryd.prog glb 113 sg_l2SumM F_l2SumM.spec := conOK_tree om_l2SumM mixed Tryd.func113 (by kernel_rfl) run_l2SumM
theorem cong_l2SumM : ConOK Tryd.prog glb 113 sg_l2SumM G_l2SumM.spec := con_l2SumM.as as_l2SumM

def sg_l6tAddP : Sig := { args := [.s (.p (.own 0) 0), .ag [.e (.var 0), .e (.var 1), .e (.var 2)], .s (.e (.int .i64 (1))), .ag [.e (.var 3), .e (.var 4), .e (.var 5)]], pre := [⟨[.e (.var 6)], 97⟩], tin := [.int .i64, .int .i64, .int .i64, .int .i64, .int .i64, .int .i64, .bool], gin := [], res := .c (.ag [.e (.var 0), .e (.var 1), .e (.var 2)]), post := [⟨[.e (.var 3)], 97⟩], tout := [.int .i64, .int .i64, .int .i64, .bool], gout := [] }
def cl_l6tAddP : List (Nat × Sig) := [(113, sg_l2SumP)]
theorem run_l6tAddP : run ⟨Tryd.prog, glb, cl_l6tAddP⟩ [] Tryd.f98 sg_l6tAddP (Tryd.f98.body.getD .skip) = tr_l6tAddP := by kernel_rfl
theorem om_l6tAddP : ΩOK ⟨Tryd.prog, glb, cl_l6tAddP⟩ (specsOf Fs_l6tAddP) := (ΩOK_cons cong_l2SumP Tryd.call113 ΩOK_nil)
theorem con_l6tAddP : ConOK Tryd.prog glb 98 sg_l6tAddP F_l6tAddP.spec := conOK_tree om_l6tAddP mixed Tryd.func98 (by kernel_rfl) run_l6tAddP
theorem cong_l6tAddP : ConOK Tryd.prog glb 98 sg_l6tAddP G_l6tAddP.spec := con_l6tAddP.as as_l6tAddP

def sg_l6tAddM : Sig := { args := [.s (.p (.own 0) 0), .ag [.e (.var 0), .e (.var 1), .e (.var 2)], .s (.e (.int .i64 (-1))), .ag [.e (.var 3), .e (.var 4), .e (.var 5)]], pre := [⟨[.e (.var 6)], 97⟩], tin := [.int .i64, .int .i64, .int .i64, .int .i64, .int .i64, .int .i64, .bool], gin := [], res := .c (.ag [.e (.var 0), .e (.var 1), .e (.var 2)]), post := [⟨[.e (.var 3)], 97⟩], tout := [.int .i64, .int .i64, .int .i64, .bool], gout := [] }
def cl_l6tAddM : List (Nat × Sig) := [(113, sg_l2SumM)]
theorem run_l6tAddM : run ⟨Tryd.prog, glb, cl_l6tAddM⟩ [] Tryd.f98 sg_l6tAddM (Tryd.f98.body.getD .skip) = tr_l6tAddM := by kernel_rfl
theorem om_l6tAddM : ΩOK ⟨Tryd.prog, glb, cl_l6tAddM⟩ (specsOf Fs_l6tAddM) := (ΩOK_cons cong_l2SumM Tryd.call113 ΩOK_nil)
theorem con_l6tAddM : ConOK Tryd.prog glb 98 sg_l6tAddM F_l6tAddM.spec := conOK_tree om_l6tAddM mixed Tryd.func98 (by kernel_rfl) run_l6tAddM
theorem cong_l6tAddM : ConOK Tryd.prog glb 98 sg_l6tAddM G_l6tAddM.spec := con_l6tAddM.as as_l6tAddM

def sg_l6tPair : Sig := { args := [.s (.p (.own 0) 0), .ag [.e (.var 0), .e (.var 1), .e (.var 2)], .ag [.e (.var 3), .e (.var 4), .e (.var 5)]], pre := [⟨[.e (.var 6)], 97⟩], tin := [.int .i64, .int .i64, .int .i64, .int .i64, .int .i64, .int .i64, .bool], gin := [], res := .c (.ag [.e (.var 0), .e (.var 1), .e (.var 2)]), post := [⟨[.e (.var 3)], 97⟩], tout := [.int .i64, .int .i64, .int .i64, .bool], gout := [] }
def cl_l6tPair : List (Nat × Sig) := [(111, sg_sFracMirror), (112, sg_sFracTimes)]
theorem run_l6tPair : run ⟨Tryd.prog, glb, cl_l6tPair⟩ [] Tryd.f97 sg_l6tPair (Tryd.f97.body.getD .skip) = tr_l6tPair := by kernel_rfl
theorem om_l6tPair : ΩOK ⟨Tryd.prog, glb, cl_l6tPair⟩ (specsOf Fs_l6tPair) := (ΩOK_cons cong_sFracMirror Tryd.call111 (ΩOK_cons cong_sFracTimes Tryd.call112 ΩOK_nil))
theorem con_l6tPair : ConOK Tryd.prog glb 97 sg_l6tPair F_l6tPair.spec := conOK_tree om_l6tPair mixed Tryd.func97 (by kernel_rfl) run_l6tPair
theorem cong_l6tPair : ConOK Tryd.prog glb 97 sg_l6tPair G_l6tPair.spec := con_l6tPair.as as_l6tPair

def sg_l6tPart20 : Sig := { args := [.s (.p (.own 0) 0), .ag [.e (.var 0), .e (.var 1), .e (.var 2)], .s (.e (.int .i64 (2))), .s (.e (.bool false))], pre := [⟨[.e (.var 3)], 97⟩], tin := [.int .i64, .int .i64, .int .i64, .bool], gin := [], res := .c (.ag [.e (.var 0), .e (.var 1), .e (.var 2)]), post := [⟨[.e (.var 3)], 97⟩], tout := [.int .i64, .int .i64, .int .i64, .bool], gout := [] }
def cl_l6tPart20 : List (Nat × Sig) := [(114, sg_sFracMake)]
theorem run_l6tPart20 : run ⟨Tryd.prog, glb, cl_l6tPart20⟩ [] Tryd.f99 sg_l6tPart20 (Tryd.f99.body.getD .skip) = tr_l6tPart20 := by kernel_rfl
theorem om_l6tPart20 : ΩOK ⟨Tryd.prog, glb, cl_l6tPart20⟩ (specsOf Fs_l6tPart20) := (ΩOK_cons cong_sFracMake Tryd.call114 ΩOK_nil)
theorem con_l6tPart20 : ConOK Tryd.prog glb 99 sg_l6tPart20 F_l6tPart20.spec := conOK_tree om_l6tPart20 mixed Tryd.func99 (by kernel_rfl) run_l6tPart20
theorem cong_l6tPart20 : ConOK Tryd.prog glb 99 sg_l6tPart20 G_l6tPart20.spec := con_l6tPart20.as as_l6tPart20

def sg_l6tPart10 : Sig := { args := [.s (.p (.own 0) 0), .ag [.e (.var 0), .e (.var 1), .e (.var 2)], .s (.e (.int .i64 (1))), .s (.e (.bool false))], pre := [⟨[.e (.var 3)], 97⟩], tin := [.int .i64, .int .i64, .int .i64, .bool], gin := [], res := .c (.ag [.e (.var 0), .e (.var 1), .e (.var 2)]), post := [⟨[.e (.var 3)], 97⟩], tout := [.int .i64, .int .i64, .int .i64, .bool], gout := [] }
def cl_l6tPart10 : List (Nat × Sig) := [(114, sg_sFracMake)]
theorem run_l6tPart10 : run ⟨Tryd.prog, glb, cl_l6tPart10⟩ [] Tryd.f99 sg_l6tPart10 (Tryd.f99.body.getD .skip) = tr_l6tPart10 := by kernel_rfl
theorem om_l6tPart10 : ΩOK ⟨Tryd.prog, glb, cl_l6tPart10⟩ (specsOf Fs_l6tPart10) := (ΩOK_cons cong_sFracMake Tryd.call114 ΩOK_nil)
theorem con_l6tPart10 : ConOK Tryd.prog glb 99 sg_l6tPart10 F_l6tPart10.spec := conOK_tree om_l6tPart10 mixed Tryd.func99 (by kernel_rfl) run_l6tPart10
theorem cong_l6tPart10 : ConOK Tryd.prog glb 99 sg_l6tPart10 G_l6tPart10.spec := con_l6tPart10.as as_l6tPart10

def sg_l6tPart11 : Sig := { args := [.s (.p (.own 0) 0), .ag [.e (.var 0), .e (.var 1), .e (.var 2)], .s (.e (.int .i64 (1))), .s (.e (.bool true))], pre := [⟨[.e (.var 3)], 97⟩], tin := [.int .i64, .int .i64, .int .i64, .bool], gin := [], res := .c (.ag [.e (.var 0), .e (.var 1), .e (.var 2)]), post := [⟨[.e (.var 3)], 97⟩], tout := [.int .i64, .int .i64, .int .i64, .bool], gout := [] }
def cl_l6tPart11 : List (Nat × Sig) := [(114, sg_sFracMake)]
theorem run_l6tPart11 : run ⟨Tryd.prog, glb, cl_l6tPart11⟩ [] Tryd.f99 sg_l6tPart11 (Tryd.f99.body.getD .skip) = tr_l6tPart11 := by kernel_rfl
theorem om_l6tPart11 : ΩOK ⟨Tryd.prog, glb, cl_l6tPart11⟩ (specsOf Fs_l6tPart11) := (ΩOK_cons cong_sFracMake Tryd.call114 ΩOK_nil)
theorem con_l6tPart11 : ConOK Tryd.prog glb 99 sg_l6tPart11 F_l6tPart11.spec := conOK_tree om_l6tPart11 mixed Tryd.func99 (by kernel_rfl) run_l6tPart11
theorem cong_l6tPart11 : ConOK Tryd.prog glb 99 sg_l6tPart11 G_l6tPart11.spec := con_l6tPart11.as as_l6tPart11

def sg_l6tPowersA : Sig := { args := [.s (.p (.own 0) 0), .ag [.e (.var 0), .e (.var 1), .e (.var 2), .e (.var 3), .e (.var 4), .e (.var 5), .e (.var 6), .e (.var 7), .e (.var 8), .e (.var 9), .e (.var 10), .e (.var 11)], .s (.e (.int .i64 (1))), .s (.e (.int .i64 (1))), .s (.e (.int .i64 (1)))], pre := [⟨[.e (.var 12)], 97⟩], tin := [.int .i64, .int .i64, .int .i64, .int .i64, .int .i64, .int .i64, .int .i64, .int .i64, .int .i64, .int .i64, .int .i64, .int .i64, .bool], gin := [], res := .c (.ag [.e (.var 0), .e (.var 1), .e (.var 2)]), post := [⟨[.e (.var 3)], 97⟩], tout := [.int .i64, .int .i64, .int .i64, .bool], gout := [] }
def cl_l6tPowersA : List (Nat × Sig) := [(97, sg_l6tPair), (98, sg_l6tAddP), (98, sg_l6tAddM), (99, sg_l6tPart20)]
theorem run_l6tPowersA : run ⟨Tryd.prog, glb, cl_l6tPowersA⟩ [] Tryd.f65 sg_l6tPowersA (Tryd.f65.body.getD .skip) = tr_l6tPowersA := by kernel_rfl
theorem om_l6tPowersA : ΩOK ⟨Tryd.prog, glb, cl_l6tPowersA⟩ (specsOf Fs_l6tPowersA) := (ΩOK_cons cong_l6tPair Tryd.call97 (ΩOK_cons cong_l6tAddP Tryd.call98 (ΩOK_cons cong_l6tAddM Tryd.call98 (ΩOK_cons cong_l6tPart20 Tryd.call99 ΩOK_nil))))
theorem con_l6tPowersA : ConOK Tryd.prog glb 65 sg_l6tPowersA F_l6tPowersA.spec := conOK_tree om_l6tPowersA mixed Tryd.func65 (by kernel_rfl) run_l6tPowersA

def sg_l6tPowersB : Sig := { args := [.s (.p (.own 0) 0), .ag [.e (.var 0), .e (.var 1), .e (.var 2), .e (.var 3), .e (.var 4), .e (.var 5), .e (.var 6), .e (.var 7), .e (.var 8), .e (.var 9), .e (.var 10), .e (.var 11)], .s (.e (.int .i64 (-1))), .s (.e (.int .i64 (1))), .s (.e (.int .i64 (-1)))], pre := [⟨[.e (.var 12)], 97⟩], tin := [.int .i64, .int .i64, .int .i64, .int .i64, .int .i64, .int .i64, .int .i64, .int .i64, .int .i64, .int .i64, .int .i64, .int .i64, .bool], gin := [], res := .c (.ag [.e (.var 0), .e (.var 1), .e (.var 2)]), post := [⟨[.e (.var 3)], 97⟩], tout := [.int .i64, .int .i64, .int .i64, .bool], gout := [] }
def cl_l6tPowersB : List (Nat × Sig) := [(97, sg_l6tPair), (98, sg_l6tAddP), (98, sg_l6tAddM), (99, sg_l6tPart20)]
theorem run_l6tPowersB : run ⟨Tryd.prog, glb, cl_l6tPowersB⟩ [] Tryd.f65 sg_l6tPowersB (Tryd.f65.body.getD .skip) = tr_l6tPowersB := by kernel_rfl
theorem om_l6tPowersB : ΩOK ⟨Tryd.prog, glb, cl_l6tPowersB⟩ (specsOf Fs_l6tPowersB) := (ΩOK_cons cong_l6tPair Tryd.call97 (ΩOK_cons cong_l6tAddP Tryd.call98 (ΩOK_cons cong_l6tAddM Tryd.call98 (ΩOK_cons cong_l6tPart20 Tryd.call99 ΩOK_nil))))
theorem con_l6tPowersB : ConOK Tryd.prog glb 65 sg_l6tPowersB F_l6tPowersB.spec := conOK_tree om_l6tPowersB mixed Tryd.func65 (by kernel_rfl) run_l6tPowersB

def sg_l6tPowersC : Sig := { args := [.s (.p (.own 0) 0), .ag [.e (.var 0), .e (.var 1), .e (.var 2), .e (.var 3), .e (.var 4), .e (.var 5), .e (.var 6), .e (.var 7), .e (.var 8), .e (.var 9), .e (.var 10), .e (.var 11)], .s (.e (.int .i64 (1))), .s (.e (.int .i64 (-1))), .s (.e (.int .i64 (-1)))], pre := [⟨[.e (.var 12)], 97⟩], tin := [.int .i64, .int .i64, .int .i64, .int .i64, .int .i64, .int .i64, .int .i64, .int .i64, .int .i64, .int .i64, .int .i64, .int .i64, .bool], gin := [], res := .c (.ag [.e (.var 0), .e (.var 1), .e (.var 2)]), post := [⟨[.e (.var 3)], 97⟩], tout := [.int .i64, .int .i64, .int .i64, .bool], gout := [] }
def cl_l6tPowersC : List (Nat × Sig) := [(97, sg_l6tPair), (98, sg_l6tAddP), (98, sg_l6tAddM), (99, sg_l6tPart20)]
theorem run_l6tPowersC : run ⟨Tryd.prog, glb, cl_l6tPowersC⟩ [] Tryd.f65 sg_l6tPowersC (Tryd.f65.body.getD .skip) = tr_l6tPowersC := by kernel_rfl
theorem om_l6tPowersC : ΩOK ⟨Tryd.prog, glb, cl_l6tPowersC⟩ (specsOf Fs_l6tPowersC) := (ΩOK_cons cong_l6tPair Tryd.call97 (ΩOK_cons cong_l6tAddP Tryd.call98 (ΩOK_cons cong_l6tAddM Tryd.call98 (ΩOK_cons cong_l6tPart20 Tryd.call99 ΩOK_nil))))
theorem con_l6tPowersC : ConOK Tryd.prog glb 65 sg_l6tPowersC F_l6tPowersC.spec := conOK_tree om_l6tPowersC mixed Tryd.func65 (by kernel_rfl) run_l6tPowersC

def sg_l6tPowersD : Sig := { args := [.s (.p (.own 0) 0), .ag [.e (.var 0), .e (.var 1), .e (.var 2), .e (.var 3), .e (.var 4), .e (.var 5), .e (.var 6), .e (.var 7), .e (.var 8), .e (.var 9), .e (.var 10), .e (.var 11)], .s (.e (.int .i64 (-1))), .s (.e (.int .i64 (-1))), .s (.e (.int .i64 (1)))], pre := [⟨[.e (.var 12)], 97⟩], tin := [.int .i64, .int .i64, .int .i64, .int .i64, .int .i64, .int .i64, .int .i64, .int .i64, .int .i64, .int .i64, .int .i64, .int .i64, .bool], gin := [], res := .c (.ag [.e (.var 0), .e (.var 1), .e (.var 2)]), post := [⟨[.e (.var 3)], 97⟩], tout := [.int .i64, .int .i64, .int .i64, .bool], gout := [] }
def cl_l6tPowersD : List (Nat × Sig) := [(97, sg_l6tPair), (98, sg_l6tAddP), (98, sg_l6tAddM), (99, sg_l6tPart20)]
theorem run_l6tPowersD : run ⟨Tryd.prog, glb, cl_l6tPowersD⟩ [] Tryd.f65 sg_l6tPowersD (Tryd.f65.body.getD .skip) = tr_l6tPowersD := by kernel_rfl
theorem om_l6tPowersD : ΩOK ⟨Tryd.prog, glb, cl_l6tPowersD⟩ (specsOf Fs_l6tPowersD) := (ΩOK_cons cong_l6tPair Tryd.call97 (ΩOK_cons cong_l6tAddP Tryd.call98 (ΩOK_cons cong_l6tAddM Tryd.call98 (ΩOK_cons cong_l6tPart20 Tryd.call99 ΩOK_nil))))
theorem con_l6tPowersD : ConOK Tryd.prog glb 65 sg_l6tPowersD F_l6tPowersD.spec := conOK_tree om_l6tPowersD mixed Tryd.func65 (by kernel_rfl) run_l6tPowersD

def sg_l6tTwo2 : Sig := { args := [.s (.p (.own 0) 0), .ag [.e (.var 0), .e (.var 1), .e (.var 2), .e (.var 3), .e (.var 4), .e (.var 5), .e (.var 6), .e (.var 7), .e (.var 8), .e (.var 9), .e (.var 10), .e (.var 11)], .s (.e (.int .i64 (0))), .s (.e (.int .i64 (1))), .s (.e (.int .i64 (1))), .s (.e (.int .i64 (2))), .s (.e (.int .i64 (3))), .s (.e (.bool false))], pre := [⟨[.e (.var 12)], 97⟩], tin := [.int .i64, .int .i64, .int .i64, .int .i64, .int .i64, .int .i64, .int .i64, .int .i64, .int .i64, .int .i64, .int .i64, .int .i64, .bool], gin := [], res := .c (.ag [.e (.var 0), .e (.var 1), .e (.var 2)]), post := [⟨[.e (.var 3)], 97⟩], tout := [.int .i64, .int .i64, .int .i64, .bool], gout := [] }
def cl_l6tTwo2 : List (Nat × Sig) := [(97, sg_l6tPair), (98, sg_l6tAddP), (99, sg_l6tPart10)]
theorem run_l6tTwo2 : run ⟨Tryd.prog, glb, cl_l6tTwo2⟩ [] Tryd.f66 sg_l6tTwo2 (Tryd.f66.body.getD .skip) = tr_l6tTwo2 := by kernel_rfl
theorem om_l6tTwo2 : ΩOK ⟨Tryd.prog, glb, cl_l6tTwo2⟩ (specsOf Fs_l6tTwo2) := (ΩOK_cons cong_l6tPair Tryd.call97 (ΩOK_cons cong_l6tAddP Tryd.call98 (ΩOK_cons cong_l6tPart10 Tryd.call99 ΩOK_nil)))
theorem con_l6tTwo2 : ConOK Tryd.prog glb 66 sg_l6tTwo2 F_l6tTwo2.spec := conOK_tree om_l6tTwo2 mixed Tryd.func66 (by kernel_rfl) run_l6tTwo2

def sg_l6tTwo3 : Sig := { args := [.s (.p (.own 0) 0), .ag [.e (.var 0), .e (.var 1), .e (.var 2), .e (.var 3), .e (.var 4), .e (.var 5), .e (.var 6), .e (.var 7), .e (.var 8), .e (.var 9), .e (.var 10), .e (.var 11)], .s (.e (.int .i64 (1))), .s (.e (.int .i64 (0))), .s (.e (.int .i64 (1))), .s (.e (.int .i64 (3))), .s (.e (.int .i64 (2))), .s (.e (.bool true))], pre := [⟨[.e (.var 12)], 97⟩], tin := [.int .i64, .int .i64, .int .i64, .int .i64, .int .i64, .int .i64, .int .i64, .int .i64, .int .i64, .int .i64, .int .i64, .int .i64, .bool], gin := [], res := .c (.ag [.e (.var 0), .e (.var 1), .e (.var 2)]), post := [⟨[.e (.var 3)], 97⟩], tout := [.int .i64, .int .i64, .int .i64, .bool], gout := [] }
def cl_l6tTwo3 : List (Nat × Sig) := [(97, sg_l6tPair), (98, sg_l6tAddP), (99, sg_l6tPart11)]
theorem run_l6tTwo3 : run ⟨Tryd.prog, glb, cl_l6tTwo3⟩ [] Tryd.f66 sg_l6tTwo3 (Tryd.f66.body.getD .skip) = tr_l6tTwo3 := by kernel_rfl
theorem om_l6tTwo3 : ΩOK ⟨Tryd.prog, glb, cl_l6tTwo3⟩ (specsOf Fs_l6tTwo3) := (ΩOK_cons cong_l6tPair Tryd.call97 (ΩOK_cons cong_l6tAddP Tryd.call98 (ΩOK_cons cong_l6tPart11 Tryd.call99 ΩOK_nil)))
theorem con_l6tTwo3 : ConOK Tryd.prog glb 66 sg_l6tTwo3 F_l6tTwo3.spec := conOK_tree om_l6tTwo3 mixed Tryd.func66 (by kernel_rfl) run_l6tTwo3

def sg_l6tTwo6 : Sig := { args := [.s (.p (.own 0) 0), .ag [.e (.var 0), .e (.var 1), .e (.var 2), .e (.var 3), .e (.var 4), .e (.var 5), .e (.var 6), .e (.var 7), .e (.var 8), .e (.var 9), .e (.var 10), .e (.var 11)], .s (.e (.int .i64 (0))), .s (.e (.int .i64 (1))), .s (.e (.int .i64 (-1))), .s (.e (.int .i64 (2))), .s (.e (.int .i64 (3))), .s (.e (.bool false))], pre := [⟨[.e (.var 12)], 97⟩], tin := [.int .i64, .int .i64, .int .i64, .int .i64, .int .i64, .int .i64, .int .i64, .int .i64, .int .i64, .int .i64, .int .i64, .int .i64, .bool], gin := [], res := .c (.ag [.e (.var 0), .e (.var 1), .e (.var 2)]), post := [⟨[.e (.var 3)], 97⟩], tout := [.int .i64, .int .i64, .int .i64, .bool], gout := [] }
def cl_l6tTwo6 : List (Nat × Sig) := [(97, sg_l6tPair), (98, sg_l6tAddM), (99, sg_l6tPart10)]
theorem run_l6tTwo6 : run ⟨Tryd.prog, glb, cl_l6tTwo6⟩ [] Tryd.f66 sg_l6tTwo6 (Tryd.f66.body.getD .skip) = tr_l6tTwo6 := by kernel_rfl
theorem om_l6tTwo6 : ΩOK ⟨Tryd.prog, glb, cl_l6tTwo6⟩ (specsOf Fs_l6tTwo6) := (ΩOK_cons cong_l6tPair Tryd.call97 (ΩOK_cons cong_l6tAddM Tryd.call98 (ΩOK_cons cong_l6tPart10 Tryd.call99 ΩOK_nil)))
theorem con_l6tTwo6 : ConOK Tryd.prog glb 66 sg_l6tTwo6 F_l6tTwo6.spec := conOK_tree om_l6tTwo6 mixed Tryd.func66 (by kernel_rfl) run_l6tTwo6

def sg_l6tTwo7 : Sig := { args := [.s (.p (.own 0) 0), .ag [.e (.var 0), .e (.var 1), .e (.var 2), .e (.var 3), .e (.var 4), .e (.var 5), .e (.var 6), .e (.var 7), .e (.var 8), .e (.var 9), .e (.var 10), .e (.var 11)], .s (.e (.int .i64 (1))), .s (.e (.int .i64 (0))), .s (.e (.int .i64 (-1))), .s (.e (.int .i64 (3))), .s (.e (.int .i64 (2))), .s (.e (.bool true))], pre := [⟨[.e (.var 12)], 97⟩], tin := [.int .i64, .int .i64, .int .i64, .int .i64, .int .i64, .int .i64, .int .i64, .int .i64, .int .i64, .int .i64, .int .i64, .int .i64, .bool], gin := [], res := .c (.ag [.e (.var 0), .e (.var 1), .e (.var 2)]), post := [⟨[.e (.var 3)], 97⟩], tout := [.int .i64, .int .i64, .int .i64, .bool], gout := [] }
def cl_l6tTwo7 : List (Nat × Sig) := [(97, sg_l6tPair), (98, sg_l6tAddM), (99, sg_l6tPart11)]
theorem run_l6tTwo7 : run ⟨Tryd.prog, glb, cl_l6tTwo7⟩ [] Tryd.f66 sg_l6tTwo7 (Tryd.f66.body.getD .skip) = tr_l6tTwo7 := by kernel_rfl
theorem om_l6tTwo7 : ΩOK ⟨Tryd.prog, glb, cl_l6tTwo7⟩ (specsOf Fs_l6tTwo7) := (ΩOK_cons cong_l6tPair Tryd.call97 (ΩOK_cons cong_l6tAddM Tryd.call98 (ΩOK_cons cong_l6tPart11 Tryd.call99 ΩOK_nil)))
theorem con_l6tTwo7 : ConOK Tryd.prog glb 66 sg_l6tTwo7 F_l6tTwo7.spec := conOK_tree om_l6tTwo7 mixed Tryd.func66 (by kernel_rfl) run_l6tTwo7

def sg_l6tTwo8 : Sig := { args := [.s (.p (.own 0) 0), .ag [.e (.var 0), .e (.var 1), .e (.var 2), .e (.var 3), .e (.var 4), .e (.var 5), .e (.var 6), .e (.var 7), .e (.var 8), .e (.var 9), .e (.var 10), .e (.var 11)], .s (.e (.int .i64 (0))), .s (.e (.int .i64 (2))), .s (.e (.int .i64 (1))), .s (.e (.int .i64 (1))), .s (.e (.int .i64 (3))), .s (.e (.bool false))], pre := [⟨[.e (.var 12)], 97⟩], tin := [.int .i64, .int .i64, .int .i64, .int .i64, .int .i64, .int .i64, .int .i64, .int .i64, .int .i64, .int .i64, .int .i64, .int .i64, .bool], gin := [], res := .c (.ag [.e (.var 0), .e (.var 1), .e (.var 2)]), post := [⟨[.e (.var 3)], 97⟩], tout := [.int .i64, .int .i64, .int .i64, .bool], gout := [] }
def cl_l6tTwo8 : List (Nat × Sig) := [(97, sg_l6tPair), (98, sg_l6tAddP), (99, sg_l6tPart10)]
theorem run_l6tTwo8 : run ⟨Tryd.prog, glb, cl_l6tTwo8⟩ [] Tryd.f66 sg_l6tTwo8 (Tryd.f66.body.getD .skip) = tr_l6tTwo8 := by kernel_rfl
theorem om_l6tTwo8 : ΩOK ⟨Tryd.prog, glb, cl_l6tTwo8⟩ (specsOf Fs_l6tTwo8) := (ΩOK_cons cong_l6tPair Tryd.call97 (ΩOK_cons cong_l6tAddP Tryd.call98 (ΩOK_cons cong_l6tPart10 Tryd.call99 ΩOK_nil)))
theorem con_l6tTwo8 : ConOK Tryd.prog glb 66 sg_l6tTwo8 F_l6tTwo8.spec := conOK_tree om_l6tTwo8 mixed Tryd.func66 (by kernel_rfl) run_l6tTwo8

def sg_l6tTwo9 : Sig := { args := [.s (.p (.own 0) 0), .ag [.e (.var 0), .e (.var 1), .e (.var 2), .e (.var 3), .e (.var 4), .e (.var 5), .e (.var 6), .e (.var 7), .e (.var 8), .e (.var 9), .e (.var 10), .e (.var 11)], .s (.e (.int .i64 (0))), .s (.e (.int .i64 (2))), .s (.e (.int .i64 (-1))), .s (.e (.int .i64 (1))), .s (.e (.int .i64 (3))), .s (.e (.bool false))], pre := [⟨[.e (.var 12)], 97⟩], tin := [.int .i64, .int .i64, .int .i64, .int .i64, .int .i64, .int .i64, .int .i64, .int .i64, .int .i64, .int .i64, .int .i64, .int .i64, .bool], gin := [], res := .c (.ag [.e (.var 0), .e (.var 1), .e (.var 2)]), post := [⟨[.e (.var 3)], 97⟩], tout := [.int .i64, .int .i64, .int .i64, .bool], gout := [] }
def cl_l6tTwo9 : List (Nat × Sig) := [(97, sg_l6tPair), (98, sg_l6tAddM), (99, sg_l6tPart10)]
theorem run_l6tTwo9 : run ⟨Tryd.prog, glb, cl_l6tTwo9⟩ [] Tryd.f66 sg_l6tTwo9 (Tryd.f66.body.getD .skip) = tr_l6tTwo9 := by kernel_rfl
theorem om_l6tTwo9 : ΩOK ⟨Tryd.prog, glb, cl_l6tTwo9⟩ (specsOf Fs_l6tTwo9) := (ΩOK_cons cong_l6tPair Tryd.call97 (ΩOK_cons cong_l6tAddM Tryd.call98 (ΩOK_cons cong_l6tPart10 Tryd.call99 ΩOK_nil)))
theorem con_l6tTwo9 : ConOK Tryd.prog glb 66 sg_l6tTwo9 F_l6tTwo9.spec := conOK_tree om_l6tTwo9 mixed Tryd.func66 (by kernel_rfl) run_l6tTwo9

def sg_l6tTwo10 : Sig := { args := [.s (.p (.own 0) 0), .ag [.e (.var 0), .e (.var 1), .e (.var 2), .e (.var 3), .e (.var 4), .e (.var 5), .e (.var 6), .e (.var 7), .e (.var 8), .e (.var 9), .e (.var 10), .e (.var 11)], .s (.e (.int .i64 (0))), .s (.e (.int .i64 (3))), .s (.e (.int .i64 (1))), .s (.e (.int .i64 (1))), .s (.e (.int .i64 (2))), .s (.e (.bool false))], pre := [⟨[.e (.var 12)], 97⟩], tin := [.int .i64, .int .i64, .int .i64, .int .i64, .int .i64, .int .i64, .int .i64, .int .i64, .int .i64, .int .i64, .int .i64, .int .i64, .bool], gin := [], res := .c (.ag [.e (.var 0), .e (.var 1), .e (.var 2)]), post := [⟨[.e (.var 3)], 97⟩], tout := [.int .i64, .int .i64, .int .i64, .bool], gout := [] }
def cl_l6tTwo10 : List (Nat × Sig) := [(97, sg_l6tPair), (98, sg_l6tAddP), (99, sg_l6tPart10)]
theorem run_l6tTwo10 : run ⟨Tryd.prog, glb, cl_l6tTwo10⟩ [] Tryd.f66 sg_l6tTwo10 (Tryd.f66.body.getD .skip) = tr_l6tTwo10 := by kernel_rfl
theorem om_l6tTwo10 : ΩOK ⟨Tryd.prog, glb, cl_l6tTwo10⟩ (specsOf Fs_l6tTwo10) := (ΩOK_cons cong_l6tPair Tryd.call97 (ΩOK_cons cong_l6tAddP Tryd.call98 (ΩOK_cons cong_l6tPart10 Tryd.call99 ΩOK_nil)))
theorem con_l6tTwo10 : ConOK Tryd.prog glb 66 sg_l6tTwo10 F_l6tTwo10.spec := conOK_tree om_l6tTwo10 mixed Tryd.func66 (by kernel_rfl) run_l6tTwo10

def sg_l6tTwo11 : Sig := { args := [.s (.p (.own 0) 0), .ag [.e (.var 0), .e (.var 1), .e (.var 2), .e (.var 3), .e (.var 4), .e (.var 5), .e (.var 6), .e (.var 7), .e (.var 8), .e (.var 9), .e (.var 10), .e (.var 11)], .s (.e (.int .i64 (1))), .s (.e (.int .i64 (2))), .s (.e (.int .i64 (-1))), .s (.e (.int .i64 (0))), .s (.e (.int .i64 (3))), .s (.e (.bool true))], pre := [⟨[.e (.var 12)], 97⟩], tin := [.int .i64, .int .i64, .int .i64, .int .i64, .int .i64, .int .i64, .int .i64, .int .i64, .int .i64, .int .i64, .int .i64, .int .i64, .bool], gin := [], res := .c (.ag [.e (.var 0), .e (.var 1), .e (.var 2)]), post := [⟨[.e (.var 3)], 97⟩], tout := [.int .i64, .int .i64, .int .i64, .bool], gout := [] }
def cl_l6tTwo11 : List (Nat × Sig) := [(97, sg_l6tPair), (98, sg_l6tAddM), (99, sg_l6tPart11)]
theorem run_l6tTwo11 : run ⟨Tryd.prog, glb, cl_l6tTwo11⟩ [] Tryd.f66 sg_l6tTwo11 (Tryd.f66.body.getD .skip) = tr_l6tTwo11 := by kernel_rfl
theorem om_l6tTwo11 : ΩOK ⟨Tryd.prog, glb, cl_l6tTwo11⟩ (specsOf Fs_l6tTwo11) := (ΩOK_cons cong_l6tPair Tryd.call97 (ΩOK_cons cong_l6tAddM Tryd.call98 (ΩOK_cons cong_l6tPart11 Tryd.call99 ΩOK_nil)))
theorem con_l6tTwo11 : ConOK Tryd.prog glb 66 sg_l6tTwo11 F_l6tTwo11.spec := conOK_tree om_l6tTwo11 mixed Tryd.func66 (by kernel_rfl) run_l6tTwo11

def sg_l6tTwo12 : Sig := { args := [.s (.p (.own 0) 0), .ag [.e (.var 0), .e (.var 1), .e (.var 2), .e (.var 3), .e (.var 4), .e (.var 5), .e (.var 6), .e (.var 7), .e (.var 8), .e (.var 9), .e (.var 10), .e (.var 11)], .s (.e (.int .i64 (0))), .s (.e (.int .i64 (2))), .s (.e (.int .i64 (1))), .s (.e (.int .i64 (1))), .s (.e (.int .i64 (3))), .s (.e (.bool true))], pre := [⟨[.e (.var 12)], 97⟩], tin := [.int .i64, .int .i64, .int .i64, .int .i64, .int .i64, .int .i64, .int .i64, .int .i64, .int .i64, .int .i64, .int .i64, .int .i64, .bool], gin := [], res := .c (.ag [.e (.var 0), .e (.var 1), .e (.var 2)]), post := [⟨[.e (.var 3)], 97⟩], tout := [.int .i64, .int .i64, .int .i64, .bool], gout := [] }
def cl_l6tTwo12 : List (Nat × Sig) := [(97, sg_l6tPair), (98, sg_l6tAddP), (99, sg_l6tPart11)]
theorem run_l6tTwo12 : run ⟨Tryd.prog, glb, cl_l6tTwo12⟩ [] Tryd.f66 sg_l6tTwo12 (Tryd.f66.body.getD .skip) = tr_l6tTwo12 := by kernel_rfl
theorem om_l6tTwo12 : ΩOK ⟨Tryd.prog, glb, cl_l6tTwo12⟩ (specsOf Fs_l6tTwo12) := (ΩOK_cons cong_l6tPair Tryd.call97 (ΩOK_cons cong_l6tAddP Tryd.call98 (ΩOK_cons cong_l6tPart11 Tryd.call99 ΩOK_nil)))
theorem con_l6tTwo12 : ConOK Tryd.prog glb 66 sg_l6tTwo12 F_l6tTwo12.spec := conOK_tree om_l6tTwo12 mixed Tryd.func66 (by kernel_rfl) run_l6tTwo12

def sg_l6tTwo13 : Sig := { args := [.s (.p (.own 0) 0), .ag [.e (.var 0), .e (.var 1), .e (.var 2), .e (.var 3), .e (.var 4), .e (.var 5), .e (.var 6), .e (.var 7), .e (.var 8), .e (.var 9), .e (.var 10), .e (.var 11)], .s (.e (.int .i64 (0))), .s (.e (.int .i64 (2))), .s (.e (.int .i64 (-1))), .s (.e (.int .i64 (1))), .s (.e (.int .i64 (3))), .s (.e (.bool true))], pre := [⟨[.e (.var 12)], 97⟩], tin := [.int .i64, .int .i64, .int .i64, .int .i64, .int .i64, .int .i64, .int .i64, .int .i64, .int .i64, .int .i64, .int .i64, .int .i64, .bool], gin := [], res := .c (.ag [.e (.var 0), .e (.var 1), .e (.var 2)]), post := [⟨[.e (.var 3)], 97⟩], tout := [.int .i64, .int .i64, .int .i64, .bool], gout := [] }
def cl_l6tTwo13 : List (Nat × Sig) := [(97, sg_l6tPair), (98, sg_l6tAddM), (99, sg_l6tPart11)]
theorem run_l6tTwo13 : run ⟨Tryd.prog, glb, cl_l6tTwo13⟩ [] Tryd.f66 sg_l6tTwo13 (Tryd.f66.body.getD .skip) = tr_l6tTwo13 := by kernel_rfl
theorem om_l6tTwo13 : ΩOK ⟨Tryd.prog, glb, cl_l6tTwo13⟩ (specsOf Fs_l6tTwo13) := (ΩOK_cons cong_l6tPair Tryd.call97 (ΩOK_cons cong_l6tAddM Tryd.call98 (ΩOK_cons cong_l6tPart11 Tryd.call99 ΩOK_nil)))
theorem con_l6tTwo13 : ConOK Tryd.prog glb 66 sg_l6tTwo13 F_l6tTwo13.spec := conOK_tree om_l6tTwo13 mixed Tryd.func66 (by kernel_rfl) run_l6tTwo13

def sg_l6tTwo14 : Sig := { args := [.s (.p (.own 0) 0), .ag [.e (.var 0), .e (.var 1), .e (.var 2), .e (.var 3), .e (.var 4), .e (.var 5), .e (.var 6), .e (.var 7), .e (.var 8), .e (.var 9), .e (.var 10), .e (.var 11)], .s (.e (.int .i64 (0))), .s (.e (.int .i64 (3))), .s (.e (.int .i64 (1))), .s (.e (.int .i64 (1))), .s (.e (.int .i64 (2))), .s (.e (.bool true))], pre := [⟨[.e (.var 12)], 97⟩], tin := [.int .i64, .int .i64, .int .i64, .int .i64, .int .i64, .int .i64, .int .i64, .int .i64, .int .i64, .int .i64, .int .i64, .int .i64, .bool], gin := [], res := .c (.ag [.e (.var 0), .e (.var 1), .e (.var 2)]), post := [⟨[.e (.var 3)], 97⟩], tout := [.int .i64, .int .i64, .int .i64, .bool], gout := [] }
def cl_l6tTwo14 : List (Nat × Sig) := [(97, sg_l6tPair), (98, sg_l6tAddP), (99, sg_l6tPart11)]
theorem run_l6tTwo14 : run ⟨Tryd.prog, glb, cl_l6tTwo14⟩ [] Tryd.f66 sg_l6tTwo14 (Tryd.f66.body.getD .skip) = tr_l6tTwo14 := by kernel_rfl
theorem om_l6tTwo14 : ΩOK ⟨Tryd.prog, glb, cl_l6tTwo14⟩ (specsOf Fs_l6tTwo14) := (ΩOK_cons cong_l6tPair Tryd.call97 (ΩOK_cons cong_l6tAddP Tryd.call98 (ΩOK_cons cong_l6tPart11 Tryd.call99 ΩOK_nil)))
theorem con_l6tTwo14 : ConOK Tryd.prog glb 66 sg_l6tTwo14 F_l6tTwo14.spec := conOK_tree om_l6tTwo14 mixed Tryd.func66 (by kernel_rfl) run_l6tTwo14

def sg_l6tTwo15 : Sig := { args := [.s (.p (.own 0) 0), .ag [.e (.var 0), .e (.var 1), .e (.var 2), .e (.var 3), .e (.var 4), .e (.var 5), .e (.var 6), .e (.var 7), .e (.var 8), .e (.var 9), .e (.var 10), .e (.var 11)], .s (.e (.int .i64 (0))), .s (.e (.int .i64 (3))), .s (.e (.int .i64 (-1))), .s (.e (.int .i64 (1))), .s (.e (.int .i64 (2))), .s (.e (.bool false))], pre := [⟨[.e (.var 12)], 97⟩], tin := [.int .i64, .int .i64, .int .i64, .int .i64, .int .i64, .int .i64, .int .i64, .int .i64, .int .i64, .int .i64, .int .i64, .int .i64, .bool], gin := [], res := .c (.ag [.e (.var 0), .e (.var 1), .e (.var 2)]), post := [⟨[.e (.var 3)], 97⟩], tout := [.int .i64, .int .i64, .int .i64, .bool], gout := [] }
def cl_l6tTwo15 : List (Nat × Sig) := [(97, sg_l6tPair), (98, sg_l6tAddM), (99, sg_l6tPart10)]
theorem run_l6tTwo15 : run ⟨Tryd.prog, glb, cl_l6tTwo15⟩ [] Tryd.f66 sg_l6tTwo15 (Tryd.f66.body.getD .skip) = tr_l6tTwo15 := by kernel_rfl
theorem om_l6tTwo15 : ΩOK ⟨Tryd.prog, glb, cl_l6tTwo15⟩ (specsOf Fs_l6tTwo15) := (ΩOK_cons cong_l6tPair Tryd.call97 (ΩOK_cons cong_l6tAddM Tryd.call98 (ΩOK_cons cong_l6tPart10 Tryd.call99 ΩOK_nil)))
theorem con_l6tTwo15 : ConOK Tryd.prog glb 66 sg_l6tTwo15 F_l6tTwo15.spec := conOK_tree om_l6tTwo15 mixed Tryd.func66 (by kernel_rfl) run_l6tTwo15

def sg_iTableOf : Sig := { args := [.ag [.e (.var 0), .e (.var 1), .e (.var 2), .e (.var 3), .e (.var 4), .e (.var 5), .e (.var 6), .e (.var 7), .e (.var 8), .e (.var 9), .e (.var 10), .e (.var 11)]], pre := [], tin := [.int .i64, .int .i64, .int .i64, .int .i64, .int .i64, .int .i64, .int .i64, .int .i64, .int .i64, .int .i64, .int .i64, .int .i64], gin := [], res := .tu [.ag [.e (.var 0), .e (.var 1), .e (.var 2), .e (.var 3), .e (.var 4), .e (.var 5), .e (.var 6), .e (.var 7), .e (.var 8), .e (.var 9), .e (.var 10), .e (.var 11), .e (.var 12), .e (.var 13), .e (.var 14), .e (.var 15), .e (.var 16), .e (.var 17), .e (.var 18), .e (.var 19), .e (.var 20), .e (.var 21), .e (.var 22), .e (.var 23), .e (.var 24), .e (.var 25), .e (.var 26), .e (.var 27), .e (.var 28), .e (.var 29), .e (.var 30), .e (.var 31), .e (.var 32), .e (.var 33), .e (.var 34), .e (.var 35), .e (.var 36), .e (.var 37), .e (.var 38), .e (.var 39), .e (.var 40), .e (.var 41), .e (.var 42), .e (.var 43), .e (.var 44), .e (.var 45), .e (.var 46), .e (.var 47)], .s (.e (.var 48))], post := [], tout := [.int .i64, .int .i64, .int .i64, .int .i64, .int .i64, .int .i64, .int .i64, .int .i64, .int .i64, .int .i64, .int .i64, .int .i64, .int .i64, .int .i64, .int .i64, .int .i64, .int .i64, .int .i64, .int .i64, .int .i64, .int .i64, .int .i64, .int .i64, .int .i64, .int .i64, .int .i64, .int .i64, .int .i64, .int .i64, .int .i64, .int .i64, .int .i64, .int .i64, .int .i64, .int .i64, .int .i64, .int .i64, .int .i64, .int .i64, .int .i64, .int .i64, .int .i64, .int .i64, .int .i64, .int .i64, .int .i64, .int .i64, .int .i64, .bool], gout := [] }
def cl_iTableOf : List (Nat × Sig) := [(68, sg_iMatValid), (49, sg_need), (51, sg_power), (69, sg_iPair), (70, sg_iHalfS), (56, sg_add), (57, sg_less), (58, sg_real), (59, sg_imag), (72, sg_gotTable)]
theorem run_iTableOf : run ⟨Tryd.prog, glb, cl_iTableOf⟩ [] Tryd.f26 sg_iTableOf (Tryd.f26.body.getD .skip) = tr_iTableOf := by kernel_rfl
theorem om_iTableOf : ΩOK ⟨Tryd.prog, glb, cl_iTableOf⟩ (specsOf Fs_iTableOf) := (ΩOK_cons cong_iMatValid Tryd.call68 (ΩOK_cons cong_need Tryd.call49 (ΩOK_cons cong_power Tryd.call51 (ΩOK_cons cong_iPair Tryd.call69 (ΩOK_cons cong_iHalfS Tryd.call70 (ΩOK_cons cong_add Tryd.call56 (ΩOK_cons cong_less Tryd.call57 (ΩOK_cons cong_real Tryd.call58 (ΩOK_cons cong_imag Tryd.call59 (ΩOK_cons cong_gotTable Tryd.call72 ΩOK_nil))))))))))
theorem con_iTableOf : ConOK Tryd.prog glb 26 sg_iTableOf F_iTableOf.spec := conOK_tree om_iTableOf mixed Tryd.func26 (by kernel_rfl) run_iTableOf
theorem cong_iTableOf : ConOK Tryd.prog glb 26 sg_iTableOf G_iTableOf.spec := con_iTableOf.as as_iTableOf

def sg_sTableOf : Sig := { args := [.ag [.e (.var 0), .e (.var 1), .e (.var 2), .e (.var 3), .e (.var 4), .e (.var 5), .e (.var 6), .e (.var 7), .e (.var 8), .e (.var 9), .e (.var 10), .e (.var 11)]], pre := [], tin := [.int .i64, .int .i64, .int .i64, .int .i64, .int .i64, .int .i64, .int .i64, .int .i64, .int .i64, .int .i64, .int .i64, .int .i64], gin := [], res := .tu [.ag [.e (.var 0), .e (.var 1), .e (.var 2), .e (.var 3), .e (.var 4), .e (.var 5), .e (.var 6), .e (.var 7), .e (.var 8), .e (.var 9), .e (.var 10), .e (.var 11), .e (.var 12), .e (.var 13), .e (.var 14), .e (.var 15), .e (.var 16), .e (.var 17), .e (.var 18), .e (.var 19), .e (.var 20), .e (.var 21), .e (.var 22), .e (.var 23), .e (.var 24), .e (.var 25), .e (.var 26), .e (.var 27), .e (.var 28), .e (.var 29), .e (.var 30), .e (.var 31), .e (.var 32), .e (.var 33), .e (.var 34), .e (.var 35), .e (.var 36), .e (.var 37), .e (.var 38), .e (.var 39), .e (.var 40), .e (.var 41), .e (.var 42), .e (.var 43), .e (.var 44), .e (.var 45), .e (.var 46), .e (.var 47)], .s (.e (.var 48))], post := [], tout := [.int .i64, .int .i64, .int .i64, .int .i64, .int .i64, .int .i64, .int .i64, .int .i64, .int .i64, .int .i64, .int .i64, .int .i64, .int .i64, .int .i64, .int .i64, .int .i64, .int .i64, .int .i64, .int .i64, .int .i64, .int .i64, .int .i64, .int .i64, .int .i64, .int .i64, .int .i64, .int .i64, .int .i64, .int .i64, .int .i64, .int .i64, .int .i64, .int .i64, .int .i64, .int .i64, .int .i64, .int .i64, .int .i64, .int .i64, .int .i64, .int .i64, .int .i64, .int .i64, .int .i64, .int .i64, .int .i64, .int .i64, .int .i64, .bool], gout := [] }
def cl_sTableOf : List (Nat × Sig) := [(64, sg_sMatValid), (65, sg_l6tPowersA), (65, sg_l6tPowersB), (65, sg_l6tPowersC), (65, sg_l6tPowersD), (66, sg_l6tTwo2), (66, sg_l6tTwo3), (66, sg_l6tTwo6), (66, sg_l6tTwo7), (66, sg_l6tTwo8), (66, sg_l6tTwo9), (66, sg_l6tTwo10), (66, sg_l6tTwo11), (66, sg_l6tTwo12), (66, sg_l6tTwo13), (66, sg_l6tTwo14), (66, sg_l6tTwo15)]
theorem run_sTableOf : run ⟨Tryd.prog, glb, cl_sTableOf⟩ [] Tryd.f24 sg_sTableOf (Tryd.f24.body.getD .skip) = tr_sTableOf := by kernel_rfl
theorem om_sTableOf : ΩOK ⟨Tryd.prog, glb, cl_sTableOf⟩ (specsOf Fs_sTableOf) := (ΩOK_cons cong_sMatValid Tryd.call64 (ΩOK_cons con_l6tPowersA Tryd.call65 (ΩOK_cons con_l6tPowersB Tryd.call65 (ΩOK_cons con_l6tPowersC Tryd.call65 (ΩOK_cons con_l6tPowersD Tryd.call65 (ΩOK_cons con_l6tTwo2 Tryd.call66 (ΩOK_cons con_l6tTwo3 Tryd.call66 (ΩOK_cons con_l6tTwo6 Tryd.call66 (ΩOK_cons con_l6tTwo7 Tryd.call66 (ΩOK_cons con_l6tTwo8 Tryd.call66 (ΩOK_cons con_l6tTwo9 Tryd.call66 (ΩOK_cons con_l6tTwo10 Tryd.call66 (ΩOK_cons con_l6tTwo11 Tryd.call66 (ΩOK_cons con_l6tTwo12 Tryd.call66 (ΩOK_cons con_l6tTwo13 Tryd.call66 (ΩOK_cons con_l6tTwo14 Tryd.call66 (ΩOK_cons con_l6tTwo15 Tryd.call66 ΩOK_nil)))))))))))))))))
theorem con_sTableOf : ConOK Tryd.prog glb 24 sg_sTableOf F_sTableOf.spec := conOK_tree om_sTableOf mixed Tryd.func24 (by kernel_rfl) run_sTableOf
theorem cong_sTableOf : ConOK Tryd.prog glb 24 sg_sTableOf G_sTableOf.spec := con_sTableOf.as as_sTableOf

def sg_FnExactTableOf : Sig := { args := [.ag [.e (.var 0), .e (.var 1), .e (.var 2), .e (.var 3), .e (.var 4), .e (.var 5), .e (.var 6), .e (.var 7), .e (.var 8), .e (.var 9), .e (.var 10), .e (.var 11)]], pre := [], tin := [.int .i64, .int .i64, .int .i64, .int .i64, .int .i64, .int .i64, .int .i64, .int .i64, .int .i64, .int .i64, .int .i64, .int .i64], gin := [], res := .c (.s (.e (.var 0))), post := [], tout := [.bool], gout := [] }
def cl_FnExactTableOf : List (Nat × Sig) := [(25, sg_toMat), (24, sg_sTableOf), (26, sg_iTableOf), (27, sg_eqTable)]
theorem run_FnExactTableOf : run ⟨Tryd.prog, glb, cl_FnExactTableOf⟩ [] Tryd.f6 sg_FnExactTableOf (Tryd.f6.body.getD .skip) = tr_FnExactTableOf := by kernel_rfl
theorem om_FnExactTableOf : ΩOK ⟨Tryd.prog, glb, cl_FnExactTableOf⟩ (specsOf Fs_FnExactTableOf) := (ΩOK_cons cong_toMat Tryd.call25 (ΩOK_cons cong_sTableOf Tryd.call24 (ΩOK_cons cong_iTableOf Tryd.call26 (ΩOK_cons cong_eqTable Tryd.call27 ΩOK_nil))))
theorem con_FnExactTableOf : ConOK Tryd.prog glb 6 sg_FnExactTableOf F_FnExactTableOf.spec := conOK_tree om_FnExactTableOf mixed Tryd.func6 (by kernel_rfl) run_FnExactTableOf

end Go.Proofs.YtnlgkipjpbdodaaDoor

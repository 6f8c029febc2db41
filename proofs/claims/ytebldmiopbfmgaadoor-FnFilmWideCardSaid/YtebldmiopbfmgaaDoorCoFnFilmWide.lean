/- The contracts of the functions. -/
import Derived.Test.YtebldmiopbfmgaaDoorChecked
import Derived.Test.YtebldmiopbfmgaaDoorRkAFnFilmWide
import Derived.WalkKit
import Derived.Laws.OwnMore
import Derived.Deep.MidRow
namespace Go.Proofs.YtebldmiopbfmgaaDoor
open Go Go.Sx Go.RowKit
set_option maxRecDepth 100000

def glb : List (Nat × List Sc) := [(0, [.e (.int .i64 (0)), .e (.int .i64 (0)), .e (.int .i64 (1))]), (1, [.e (.int .i64 (1)), .e (.int .i64 (0)), .e (.int .i64 (1))]), (3, [.e (.int .i64 (0)), .e (.int .i64 (1)), .e (.int .i64 (1))]), (2, [.e (.int .i64 (1)), .e (.int .i64 (0)), .e (.int .i64 (1)), .e (.int .i64 (0)), .e (.int .i64 (0)), .e (.int .i64 (1)), .e (.int .i64 (0)), .e (.int .i64 (0)), .e (.int .i64 (1)), .e (.int .i64 (1)), .e (.int .i64 (0)), .e (.int .i64 (1))])]
theorem mixed : Tryd.prog.follows .mixedOrders = true := by kernel_rfl

def sg_size : Sig := { args := [.s (.e (.var 0))], pre := [], tin := [.int .i64], gin := [], res := .c (.s (.e (.var 0))), post := [], tout := [.int .i64], gout := [] }
def cl_size : List (Nat × Sig) := []
theorem run_size : run ⟨Tryd.prog, glb, cl_size⟩ [] Tryd.f73 sg_size (Tryd.f73.body.getD .skip) = tr_size := by kernel_rfl
theorem om_size : ΩOK ⟨Tryd.prog, glb, cl_size⟩ (specsOf Fs_size) := ΩOK_nil
theorem con_size : ConOK Tryd.prog glb 73 sg_size F_size.spec := conOK_tree om_size mixed Tryd.func73 (by kernel_rfl) run_size

def sg_within : Sig := { args := [.s (.e (.var 0)), .s (.e (.var 1)), .s (.e (.var 2))], pre := [], tin := [.int .i64, .int .i64, .int .i64], gin := [], res := .c (.s (.e (.var 0))), post := [], tout := [.bool], gout := [] }
def cl_within : List (Nat × Sig) := []
theorem run_within : run ⟨Tryd.prog, glb, cl_within⟩ [] Tryd.f60 sg_within (Tryd.f60.body.getD .skip) = tr_within := by kernel_rfl
theorem om_within : ΩOK ⟨Tryd.prog, glb, cl_within⟩ (specsOf Fs_within) := ΩOK_nil
theorem con_within : ConOK Tryd.prog glb 60 sg_within F_within.spec := conOK_tree om_within mixed Tryd.func60 (by kernel_rfl) run_within
theorem cong_within : ConOK Tryd.prog glb 60 sg_within G_within.spec := (con_within).as as_within

def sg_l6In : Sig := { args := [.s (.e (.var 0)), .s (.e (.var 1)), .s (.e (.var 2))], pre := [], tin := [.int .i64, .int .i64, .int .i64], gin := [], res := .c (.s (.e (.var 0))), post := [], tout := [.bool], gout := [] }
def cl_l6In : List (Nat × Sig) := []
theorem run_l6In : run ⟨Tryd.prog, glb, cl_l6In⟩ [] Tryd.f59 sg_l6In (Tryd.f59.body.getD .skip) = tr_l6In := by kernel_rfl
theorem om_l6In : ΩOK ⟨Tryd.prog, glb, cl_l6In⟩ (specsOf Fs_l6In) := ΩOK_nil
theorem con_l6In : ConOK Tryd.prog glb 59 sg_l6In F_l6In.spec := conOK_tree om_l6In mixed Tryd.func59 (by kernel_rfl) run_l6In
theorem cong_l6In : ConOK Tryd.prog glb 59 sg_l6In G_l6In.spec := (con_l6In).as as_l6In

def sg_l2In : Sig := { args := [.s (.e (.var 0))], pre := [], tin := [.int .i64], gin := [], res := .c (.s (.e (.var 0))), post := [], tout := [.bool], gout := [] }
def cl_l2In : List (Nat × Sig) := [(59, sg_l6In)]
theorem run_l2In : run ⟨Tryd.prog, glb, cl_l2In⟩ [] Tryd.f74 sg_l2In (Tryd.f74.body.getD .skip) = tr_l2In := by kernel_rfl
theorem om_l2In : ΩOK ⟨Tryd.prog, glb, cl_l2In⟩ (specsOf Fs_l2In) := (ΩOK_cons cong_l6In Tryd.call59 ΩOK_nil)
theorem con_l2In : ConOK Tryd.prog glb 74 sg_l2In F_l2In.spec := conOK_tree om_l2In mixed Tryd.func74 (by kernel_rfl) run_l2In
theorem cong_l2In : ConOK Tryd.prog glb 74 sg_l2In G_l2In.spec := (con_l2In).as as_l2In

def sg_divisor : Sig := { args := [.s (.e (.var 0)), .s (.e (.var 1))], pre := [], tin := [.int .i64, .int .i64], gin := [], res := .c (.s (.e (.var 0))), post := [], tout := [.int .i64], gout := [] }
def cl_divisor : List (Nat × Sig) := []
theorem run_divisor : run ⟨Tryd.prog, glb, cl_divisor⟩ [(0, ⟨[(0, .int .i64), (1, .int .i64)], [], none⟩)] Tryd.f72 sg_divisor (Tryd.f72.body.getD .skip) = tr_divisor := by kernel_rfl
theorem om_divisor : ΩOK ⟨Tryd.prog, glb, cl_divisor⟩ (specsOf Fs_divisor) := ΩOK_nil
theorem con_divisor : ConOK Tryd.prog glb 72 sg_divisor F_divisor.spec := conOK_of om_divisor mixed Tryd.func72 (by kernel_rfl) run_divisor (fun ins K ht h => sat_divisor Tryd.prog ins K ht h.1 h.2)

def sg_l2Gcd : Sig := { args := [.s (.e (.var 0)), .s (.e (.var 1))], pre := [], tin := [.int .i64, .int .i64], gin := [], res := .c (.s (.e (.var 0))), post := [], tout := [.int .i64], gout := [] }
def cl_l2Gcd : List (Nat × Sig) := []
theorem run_l2Gcd : run ⟨Tryd.prog, glb, cl_l2Gcd⟩ [(0, ⟨[(0, .int .i64), (1, .int .i64)], [], none⟩)] Tryd.f75 sg_l2Gcd (Tryd.f75.body.getD .skip) = tr_l2Gcd := by kernel_rfl
theorem om_l2Gcd : ΩOK ⟨Tryd.prog, glb, cl_l2Gcd⟩ (specsOf Fs_l2Gcd) := ΩOK_nil
theorem con_l2Gcd : ConOK Tryd.prog glb 75 sg_l2Gcd F_l2Gcd.spec := conOK_of om_l2Gcd mixed Tryd.func75 (by kernel_rfl) run_l2Gcd (fun ins K ht h => sat_l2Gcd Tryd.prog ins K ht h.1 h.2)

def sg_lowest : Sig := { args := [.s (.e (.var 0)), .s (.e (.var 1)), .s (.e (.var 2))], pre := [], tin := [.int .i64, .int .i64, .int .i64], gin := [], res := .tu [.ag [.e (.var 0), .e (.var 1), .e (.var 2)], .s (.e (.var 3))], post := [], tout := [.int .i64, .int .i64, .int .i64, .bool], gout := [] }
def cl_lowest : List (Nat × Sig) := [(73, sg_size), (72, sg_divisor), (60, sg_within)]
theorem run_lowest : run ⟨Tryd.prog, glb, cl_lowest⟩ [] Tryd.f87 sg_lowest (Tryd.f87.body.getD .skip) = tr_lowest := by kernel_rfl
theorem om_lowest : ΩOK ⟨Tryd.prog, glb, cl_lowest⟩ (specsOf Fs_lowest) := (ΩOK_cons con_size Tryd.call73 (ΩOK_cons con_divisor Tryd.call72 (ΩOK_cons cong_within Tryd.call60 ΩOK_nil)))
theorem con_lowest : ConOK Tryd.prog glb 87 sg_lowest F_lowest.spec := conOK_tree om_lowest mixed Tryd.func87 (by kernel_rfl) run_lowest
theorem cong_lowest : ConOK Tryd.prog glb 87 sg_lowest G_lowest.spec := (con_lowest).as as_lowest

def sg_sFracValid : Sig := { args := [.ag [.e (.var 0), .e (.var 1), .e (.var 2)]], pre := [], tin := [.int .i64, .int .i64, .int .i64], gin := [], res := .c (.s (.e (.var 0))), post := [], tout := [.bool], gout := [] }
def cl_sFracValid : List (Nat × Sig) := [(74, sg_l2In), (59, sg_l6In), (75, sg_l2Gcd)]
theorem run_sFracValid : run ⟨Tryd.prog, glb, cl_sFracValid⟩ [] Tryd.f58 sg_sFracValid (Tryd.f58.body.getD .skip) = tr_sFracValid := by kernel_rfl
theorem om_sFracValid : ΩOK ⟨Tryd.prog, glb, cl_sFracValid⟩ (specsOf Fs_sFracValid) := (ΩOK_cons cong_l2In Tryd.call74 (ΩOK_cons cong_l6In Tryd.call59 (ΩOK_cons con_l2Gcd Tryd.call75 ΩOK_nil)))
theorem con_sFracValid : ConOK Tryd.prog glb 58 sg_sFracValid F_sFracValid.spec := conOK_tree om_sFracValid mixed Tryd.func58 (by kernel_rfl) run_sFracValid
theorem cong_sFracValid : ConOK Tryd.prog glb 58 sg_sFracValid G_sFracValid.spec := (con_sFracValid).as as_sFracValid

def sg_l2Low : Sig := { args := [.s (.e (.var 0)), .s (.e (.var 1)), .s (.e (.var 2))], pre := [], tin := [.int .i64, .int .i64, .int .i64], gin := [], res := .tu [.ag [.e (.var 0), .e (.var 1), .e (.var 2)], .s (.e (.var 3))], post := [], tout := [.int .i64, .int .i64, .int .i64, .bool], gout := [] }
def cl_l2Low : List (Nat × Sig) := [(75, sg_l2Gcd), (58, sg_sFracValid)]
theorem run_l2Low : run ⟨Tryd.prog, glb, cl_l2Low⟩ [] Tryd.f78 sg_l2Low (Tryd.f78.body.getD .skip) = tr_l2Low := by kernel_rfl
theorem om_l2Low : ΩOK ⟨Tryd.prog, glb, cl_l2Low⟩ (specsOf Fs_l2Low) := (ΩOK_cons con_l2Gcd Tryd.call75 (ΩOK_cons cong_sFracValid Tryd.call58 ΩOK_nil))
theorem con_l2Low : ConOK Tryd.prog glb 78 sg_l2Low F_l2Low.spec := conOK_tree om_l2Low mixed Tryd.func78 (by kernel_rfl) run_l2Low
theorem cong_l2Low : ConOK Tryd.prog glb 78 sg_l2Low G_l2Low.spec := (con_l2Low).as as_l2Low

def sg_iFracValid : Sig := { args := [.ag [.e (.var 0), .e (.var 1), .e (.var 2)]], pre := [], tin := [.int .i64, .int .i64, .int .i64], gin := [], res := .c (.s (.e (.var 0))), post := [], tout := [.bool], gout := [] }
def cl_iFracValid : List (Nat × Sig) := [(60, sg_within), (72, sg_divisor), (73, sg_size)]
theorem run_iFracValid : run ⟨Tryd.prog, glb, cl_iFracValid⟩ [] Tryd.f57 sg_iFracValid (Tryd.f57.body.getD .skip) = tr_iFracValid := by kernel_rfl
theorem om_iFracValid : ΩOK ⟨Tryd.prog, glb, cl_iFracValid⟩ (specsOf Fs_iFracValid) := (ΩOK_cons cong_within Tryd.call60 (ΩOK_cons con_divisor Tryd.call72 (ΩOK_cons con_size Tryd.call73 ΩOK_nil)))
theorem con_iFracValid : ConOK Tryd.prog glb 57 sg_iFracValid F_iFracValid.spec := conOK_tree om_iFracValid mixed Tryd.func57 (by kernel_rfl) run_iFracValid
theorem cong_iFracValid : ConOK Tryd.prog glb 57 sg_iFracValid G_iFracValid.spec := (con_iFracValid).as as_iFracValid

def sg_iFracAdd : Sig := { args := [.ag [.e (.var 0), .e (.var 1), .e (.var 2)], .ag [.e (.var 3), .e (.var 4), .e (.var 5)]], pre := [], tin := [.int .i64, .int .i64, .int .i64, .int .i64, .int .i64, .int .i64], gin := [], res := .tu [.ag [.e (.var 0), .e (.var 1), .e (.var 2)], .s (.e (.var 3))], post := [], tout := [.int .i64, .int .i64, .int .i64, .bool], gout := [] }
def cl_iFracAdd : List (Nat × Sig) := [(57, sg_iFracValid), (87, sg_lowest)]
theorem run_iFracAdd : run ⟨Tryd.prog, glb, cl_iFracAdd⟩ [] Tryd.f86 sg_iFracAdd (Tryd.f86.body.getD .skip) = tr_iFracAdd := by kernel_rfl
theorem om_iFracAdd : ΩOK ⟨Tryd.prog, glb, cl_iFracAdd⟩ (specsOf Fs_iFracAdd) := (ΩOK_cons cong_iFracValid Tryd.call57 (ΩOK_cons cong_lowest Tryd.call87 ΩOK_nil))
theorem con_iFracAdd : ConOK Tryd.prog glb 86 sg_iFracAdd F_iFracAdd.spec := conOK_tree om_iFracAdd mixed Tryd.func86 (by kernel_rfl) run_iFracAdd
theorem cong_iFracAdd : ConOK Tryd.prog glb 86 sg_iFracAdd G_iFracAdd.spec := (con_iFracAdd).as as_iFracAdd

def sg_iFracTimes : Sig := { args := [.ag [.e (.var 0), .e (.var 1), .e (.var 2)], .ag [.e (.var 3), .e (.var 4), .e (.var 5)]], pre := [], tin := [.int .i64, .int .i64, .int .i64, .int .i64, .int .i64, .int .i64], gin := [], res := .tu [.ag [.e (.var 0), .e (.var 1), .e (.var 2)], .s (.e (.var 3))], post := [], tout := [.int .i64, .int .i64, .int .i64, .bool], gout := [] }
def cl_iFracTimes : List (Nat × Sig) := [(57, sg_iFracValid), (87, sg_lowest)]
theorem run_iFracTimes : run ⟨Tryd.prog, glb, cl_iFracTimes⟩ [] Tryd.f85 sg_iFracTimes (Tryd.f85.body.getD .skip) = tr_iFracTimes := by kernel_rfl
theorem om_iFracTimes : ΩOK ⟨Tryd.prog, glb, cl_iFracTimes⟩ (specsOf Fs_iFracTimes) := (ΩOK_cons cong_iFracValid Tryd.call57 (ΩOK_cons cong_lowest Tryd.call87 ΩOK_nil))
theorem con_iFracTimes : ConOK Tryd.prog glb 85 sg_iFracTimes F_iFracTimes.spec := conOK_tree om_iFracTimes mixed Tryd.func85 (by kernel_rfl) run_iFracTimes
theorem cong_iFracTimes : ConOK Tryd.prog glb 85 sg_iFracTimes G_iFracTimes.spec := (con_iFracTimes).as as_iFracTimes

def sg_keep : Sig := { args := [.s (.p (.own 0) 0), .ag [.e (.var 0), .e (.var 1), .e (.var 2)], .s (.e (.var 3))], pre := [⟨[.e (.var 4)], 75⟩], tin := [.int .i64, .int .i64, .int .i64, .bool, .bool], gin := [], res := .c (.ag [.e (.var 0), .e (.var 1), .e (.var 2)]), post := [⟨[.e (.var 3)], 75⟩], tout := [.int .i64, .int .i64, .int .i64, .bool], gout := [] }
def cl_keep : List (Nat × Sig) := []
theorem run_keep : run ⟨Tryd.prog, glb, cl_keep⟩ [] Tryd.f69 sg_keep (Tryd.f69.body.getD .skip) = tr_keep := by kernel_rfl
theorem om_keep : ΩOK ⟨Tryd.prog, glb, cl_keep⟩ (specsOf Fs_keep) := ΩOK_nil
theorem con_keep : ConOK Tryd.prog glb 69 sg_keep F_keep.spec := conOK_tree om_keep mixed Tryd.func69 (by kernel_rfl) run_keep

def sg_add : Sig := { args := [.s (.p (.own 0) 0), .ag [.e (.var 0), .e (.var 1), .e (.var 2)], .ag [.e (.var 3), .e (.var 4), .e (.var 5)]], pre := [⟨[.e (.var 6)], 75⟩], tin := [.int .i64, .int .i64, .int .i64, .int .i64, .int .i64, .int .i64, .bool], gin := [], res := .c (.ag [.e (.var 0), .e (.var 1), .e (.var 2)]), post := [⟨[.e (.var 3)], 75⟩], tout := [.int .i64, .int .i64, .int .i64, .bool], gout := [] }
def cl_add : List (Nat × Sig) := [(86, sg_iFracAdd), (69, sg_keep)]
theorem run_add : run ⟨Tryd.prog, glb, cl_add⟩ [] Tryd.f68 sg_add (Tryd.f68.body.getD .skip) = tr_add := by kernel_rfl
theorem om_add : ΩOK ⟨Tryd.prog, glb, cl_add⟩ (specsOf Fs_add) := (ΩOK_cons cong_iFracAdd Tryd.call86 (ΩOK_cons con_keep Tryd.call69 ΩOK_nil))
theorem con_add : ConOK Tryd.prog glb 68 sg_add F_add.spec := conOK_tree om_add mixed Tryd.func68 (by kernel_rfl) run_add
theorem cong_add : ConOK Tryd.prog glb 68 sg_add G_add.spec := (con_add).as as_add

def sg_times : Sig := { args := [.s (.p (.own 0) 0), .ag [.e (.var 0), .e (.var 1), .e (.var 2)], .ag [.e (.var 3), .e (.var 4), .e (.var 5)]], pre := [⟨[.e (.var 6)], 75⟩], tin := [.int .i64, .int .i64, .int .i64, .int .i64, .int .i64, .int .i64, .bool], gin := [], res := .c (.ag [.e (.var 0), .e (.var 1), .e (.var 2)]), post := [⟨[.e (.var 3)], 75⟩], tout := [.int .i64, .int .i64, .int .i64, .bool], gout := [] }
def cl_times : List (Nat × Sig) := [(85, sg_iFracTimes), (69, sg_keep)]
theorem run_times : run ⟨Tryd.prog, glb, cl_times⟩ [] Tryd.f67 sg_times (Tryd.f67.body.getD .skip) = tr_times := by kernel_rfl
theorem om_times : ΩOK ⟨Tryd.prog, glb, cl_times⟩ (specsOf Fs_times) := (ΩOK_cons cong_iFracTimes Tryd.call85 (ΩOK_cons con_keep Tryd.call69 ΩOK_nil))
theorem con_times : ConOK Tryd.prog glb 67 sg_times F_times.spec := conOK_tree om_times mixed Tryd.func67 (by kernel_rfl) run_times
theorem cong_times : ConOK Tryd.prog glb 67 sg_times G_times.spec := (con_times).as as_times

def sg_need : Sig := { args := [.s (.p (.own 0) 0), .s (.e (.var 0))], pre := [⟨[.e (.var 1)], 75⟩], tin := [.bool, .bool], gin := [], res := .c (.s (.p (.own 0) 0)), post := [⟨[.e (.var 0)], 75⟩], tout := [.bool], gout := [] }
def cl_need : List (Nat × Sig) := []
theorem run_need : run ⟨Tryd.prog, glb, cl_need⟩ [] Tryd.f53 sg_need (Tryd.f53.body.getD .skip) = tr_need := by kernel_rfl
theorem om_need : ΩOK ⟨Tryd.prog, glb, cl_need⟩ (specsOf Fs_need) := ΩOK_nil
theorem con_need : ConOK Tryd.prog glb 53 sg_need F_need.spec := conOK_tree om_need mixed Tryd.func53 (by kernel_rfl) run_need
theorem cong_need : ConOK Tryd.prog glb 53 sg_need G_need.spec := (con_need).as as_need

def sg_iMatValid : Sig := { args := [.ag [.e (.var 0), .e (.var 1), .e (.var 2), .e (.var 3), .e (.var 4), .e (.var 5), .e (.var 6), .e (.var 7), .e (.var 8), .e (.var 9), .e (.var 10), .e (.var 11)]], pre := [], tin := [.int .i64, .int .i64, .int .i64, .int .i64, .int .i64, .int .i64, .int .i64, .int .i64, .int .i64, .int .i64, .int .i64, .int .i64], gin := [], res := .c (.s (.e (.var 0))), post := [], tout := [.bool], gout := [] }
def cl_iMatValid : List (Nat × Sig) := [(57, sg_iFracValid)]
theorem run_iMatValid : run ⟨Tryd.prog, glb, cl_iMatValid⟩ [] Tryd.f81 sg_iMatValid (Tryd.f81.body.getD .skip) = tr_iMatValid := by kernel_rfl
theorem om_iMatValid : ΩOK ⟨Tryd.prog, glb, cl_iMatValid⟩ (specsOf Fs_iMatValid) := (ΩOK_cons cong_iFracValid Tryd.call57 ΩOK_nil)
theorem con_iMatValid : ConOK Tryd.prog glb 81 sg_iMatValid F_iMatValid.spec := conOK_tree om_iMatValid mixed Tryd.func81 (by kernel_rfl) run_iMatValid
theorem cong_iMatValid : ConOK Tryd.prog glb 81 sg_iMatValid G_iMatValid.spec := (con_iMatValid).as as_iMatValid

def sg_iFracLess : Sig := { args := [.ag [.e (.var 0), .e (.var 1), .e (.var 2)], .ag [.e (.var 3), .e (.var 4), .e (.var 5)]], pre := [], tin := [.int .i64, .int .i64, .int .i64, .int .i64, .int .i64, .int .i64], gin := [], res := .tu [.ag [.e (.var 0), .e (.var 1), .e (.var 2)], .s (.e (.var 3))], post := [], tout := [.int .i64, .int .i64, .int .i64, .bool], gout := [] }
def cl_iFracLess : List (Nat × Sig) := [(57, sg_iFracValid), (87, sg_lowest)]
theorem run_iFracLess : run ⟨Tryd.prog, glb, cl_iFracLess⟩ [] Tryd.f71 sg_iFracLess (Tryd.f71.body.getD .skip) = tr_iFracLess := by kernel_rfl
theorem om_iFracLess : ΩOK ⟨Tryd.prog, glb, cl_iFracLess⟩ (specsOf Fs_iFracLess) := (ΩOK_cons cong_iFracValid Tryd.call57 (ΩOK_cons cong_lowest Tryd.call87 ΩOK_nil))
theorem con_iFracLess : ConOK Tryd.prog glb 71 sg_iFracLess F_iFracLess.spec := conOK_tree om_iFracLess mixed Tryd.func71 (by kernel_rfl) run_iFracLess
theorem cong_iFracLess : ConOK Tryd.prog glb 71 sg_iFracLess G_iFracLess.spec := (con_iFracLess).as as_iFracLess

def sg_less : Sig := { args := [.s (.p (.own 0) 0), .ag [.e (.var 0), .e (.var 1), .e (.var 2)], .ag [.e (.var 3), .e (.var 4), .e (.var 5)]], pre := [⟨[.e (.var 6)], 75⟩], tin := [.int .i64, .int .i64, .int .i64, .int .i64, .int .i64, .int .i64, .bool], gin := [], res := .c (.ag [.e (.var 0), .e (.var 1), .e (.var 2)]), post := [⟨[.e (.var 3)], 75⟩], tout := [.int .i64, .int .i64, .int .i64, .bool], gout := [] }
def cl_less : List (Nat × Sig) := [(71, sg_iFracLess), (69, sg_keep)]
theorem run_less : run ⟨Tryd.prog, glb, cl_less⟩ [] Tryd.f56 sg_less (Tryd.f56.body.getD .skip) = tr_less := by kernel_rfl
theorem om_less : ΩOK ⟨Tryd.prog, glb, cl_less⟩ (specsOf Fs_less) := (ΩOK_cons cong_iFracLess Tryd.call71 (ΩOK_cons con_keep Tryd.call69 ΩOK_nil))
theorem con_less : ConOK Tryd.prog glb 56 sg_less F_less.spec := conOK_tree om_less mixed Tryd.func56 (by kernel_rfl) run_less
theorem cong_less : ConOK Tryd.prog glb 56 sg_less G_less.spec := (con_less).as as_less

def sg_indexOk : Sig := { args := [.ag [.e (.var 0), .e (.var 1), .e (.var 2)]], pre := [], tin := [.int .i64, .int .i64, .int .i64], gin := [], res := .c (.s (.e (.var 0))), post := [], tout := [.bool], gout := [] }
def cl_indexOk : List (Nat × Sig) := [(57, sg_iFracValid)]
theorem run_indexOk : run ⟨Tryd.prog, glb, cl_indexOk⟩ [] Tryd.f39 sg_indexOk (Tryd.f39.body.getD .skip) = tr_indexOk := by kernel_rfl
theorem om_indexOk : ΩOK ⟨Tryd.prog, glb, cl_indexOk⟩ (specsOf Fs_indexOk) := (ΩOK_cons cong_iFracValid Tryd.call57 ΩOK_nil)
theorem con_indexOk : ConOK Tryd.prog glb 39 sg_indexOk F_indexOk.spec := conOK_tree om_indexOk mixed Tryd.func39 (by kernel_rfl) run_indexOk
theorem cong_indexOk : ConOK Tryd.prog glb 39 sg_indexOk G_indexOk.spec := (con_indexOk).as as_indexOk

def sg_iFilmValid : Sig := { args := [.s (.e (.var 0))], pre := [], tin := [.sl, .row .i64 4], gin := [(0, 1, 4)], res := .c (.s (.e (.var 0))), post := [], tout := [.bool], gout := [] }
def cl_iFilmValid : List (Nat × Sig) := [(39, sg_indexOk), (60, sg_within)]
theorem run_iFilmValid : run ⟨Tryd.prog, glb, cl_iFilmValid⟩ [(0, ⟨[(7, .int .i64)], [], none⟩)] Tryd.f31 sg_iFilmValid (Tryd.f31.body.getD .skip) = tr_iFilmValid := by kernel_rfl
theorem om_iFilmValid : ΩOK ⟨Tryd.prog, glb, cl_iFilmValid⟩ (specsOf Fs_iFilmValid) := (ΩOK_cons cong_indexOk Tryd.call39 (ΩOK_cons cong_within Tryd.call60 ΩOK_nil))
theorem con_iFilmValid : ConOK Tryd.prog glb 31 sg_iFilmValid F_iFilmValid.spec := conOK_of om_iFilmValid mixed Tryd.func31 (by kernel_rfl) run_iFilmValid (fun ins K ht h => sat_iFilmValid Tryd.prog ins K ht h.1 h.2)

def sg_sFilmValid : Sig := { args := [.s (.e (.var 0))], pre := [], tin := [.sl, .row .i64 4], gin := [(0, 1, 4)], res := .c (.s (.e (.var 0))), post := [], tout := [.bool], gout := [] }
def cl_sFilmValid : List (Nat × Sig) := [(58, sg_sFracValid), (59, sg_l6In)]
theorem run_sFilmValid : run ⟨Tryd.prog, glb, cl_sFilmValid⟩ [(0, ⟨[(3, .int .i64)], [], none⟩)] Tryd.f29 sg_sFilmValid (Tryd.f29.body.getD .skip) = tr_sFilmValid := by kernel_rfl
theorem om_sFilmValid : ΩOK ⟨Tryd.prog, glb, cl_sFilmValid⟩ (specsOf Fs_sFilmValid) := (ΩOK_cons cong_sFracValid Tryd.call58 (ΩOK_cons cong_l6In Tryd.call59 ΩOK_nil))
theorem con_sFilmValid : ConOK Tryd.prog glb 29 sg_sFilmValid F_sFilmValid.spec := conOK_of om_sFilmValid mixed Tryd.func29 (by kernel_rfl) run_sFilmValid (fun ins K ht h => sat_sFilmValid Tryd.prog ins K ht h.1 h.2)

def sg_mcell00 : Sig := { args := [.s (.e (.int .i64 (0))), .s (.e (.int .i64 (0))), .s (.p (.own 0) 0), .s (.p (.own 1) 0), .s (.p (.own 2) 0)], pre := [⟨[.p (.own 3) 0], 73⟩, ⟨[.e (.var 0), .e (.var 1), .e (.var 2), .e (.var 3), .e (.var 4), .e (.var 5), .e (.var 6), .e (.var 7), .e (.var 8), .e (.var 9), .e (.var 10), .e (.var 11)], 87⟩, ⟨[.e (.var 12), .e (.var 13), .e (.var 14), .e (.var 15), .e (.var 16), .e (.var 17), .e (.var 18), .e (.var 19), .e (.var 20), .e (.var 21), .e (.var 22), .e (.var 23)], 87⟩, ⟨[.e (.var 24)], 75⟩], tin := [.int .i64, .int .i64, .int .i64, .int .i64, .int .i64, .int .i64, .int .i64, .int .i64, .int .i64, .int .i64, .int .i64, .int .i64, .int .i64, .int .i64, .int .i64, .int .i64, .int .i64, .int .i64, .int .i64, .int .i64, .int .i64, .int .i64, .int .i64, .int .i64, .bool], gin := [], res := .c (.ag [.e (.var 0), .e (.var 1), .e (.var 2)]), post := [⟨[.p (.own 3) 0], 73⟩, ⟨[.e (.var 3), .e (.var 4), .e (.var 5), .e (.var 6), .e (.var 7), .e (.var 8), .e (.var 9), .e (.var 10), .e (.var 11), .e (.var 12), .e (.var 13), .e (.var 14)], 87⟩, ⟨[.e (.var 15), .e (.var 16), .e (.var 17), .e (.var 18), .e (.var 19), .e (.var 20), .e (.var 21), .e (.var 22), .e (.var 23), .e (.var 24), .e (.var 25), .e (.var 26)], 87⟩, ⟨[.e (.var 27)], 75⟩], tout := [.int .i64, .int .i64, .int .i64, .int .i64, .int .i64, .int .i64, .int .i64, .int .i64, .int .i64, .int .i64, .int .i64, .int .i64, .int .i64, .int .i64, .int .i64, .int .i64, .int .i64, .int .i64, .int .i64, .int .i64, .int .i64, .int .i64, .int .i64, .int .i64, .int .i64, .int .i64, .int .i64, .bool], gout := [] }
def cl_mcell00 : List (Nat × Sig) := [(67, sg_times), (68, sg_add)]
theorem run_mcell00 : run ⟨Tryd.prog, glb, cl_mcell00⟩ [] Tryd.f90 sg_mcell00 (Tryd.f90.body.getD .skip) = tr_mcell00 := by kernel_rfl
theorem om_mcell00 : ΩOK ⟨Tryd.prog, glb, cl_mcell00⟩ (specsOf Fs_mcell00) := (ΩOK_cons cong_times Tryd.call67 (ΩOK_cons cong_add Tryd.call68 ΩOK_nil))
theorem con_mcell00 : ConOK Tryd.prog glb 90 sg_mcell00 F_mcell00.spec := conOK_tree om_mcell00 mixed Tryd.func90 (by kernel_rfl) run_mcell00
theorem cong_mcell00 : ConOK Tryd.prog glb 90 sg_mcell00 G_mcell00.spec := (con_mcell00).as as_mcell00

def sg_mcell01 : Sig := { args := [.s (.e (.int .i64 (0))), .s (.e (.int .i64 (1))), .s (.p (.own 0) 0), .s (.p (.own 1) 0), .s (.p (.own 2) 0)], pre := [⟨[.p (.own 3) 0], 73⟩, ⟨[.e (.var 0), .e (.var 1), .e (.var 2), .e (.var 3), .e (.var 4), .e (.var 5), .e (.var 6), .e (.var 7), .e (.var 8), .e (.var 9), .e (.var 10), .e (.var 11)], 87⟩, ⟨[.e (.var 12), .e (.var 13), .e (.var 14), .e (.var 15), .e (.var 16), .e (.var 17), .e (.var 18), .e (.var 19), .e (.var 20), .e (.var 21), .e (.var 22), .e (.var 23)], 87⟩, ⟨[.e (.var 24)], 75⟩], tin := [.int .i64, .int .i64, .int .i64, .int .i64, .int .i64, .int .i64, .int .i64, .int .i64, .int .i64, .int .i64, .int .i64, .int .i64, .int .i64, .int .i64, .int .i64, .int .i64, .int .i64, .int .i64, .int .i64, .int .i64, .int .i64, .int .i64, .int .i64, .int .i64, .bool], gin := [], res := .c (.ag [.e (.var 0), .e (.var 1), .e (.var 2)]), post := [⟨[.p (.own 3) 0], 73⟩, ⟨[.e (.var 3), .e (.var 4), .e (.var 5), .e (.var 6), .e (.var 7), .e (.var 8), .e (.var 9), .e (.var 10), .e (.var 11), .e (.var 12), .e (.var 13), .e (.var 14)], 87⟩, ⟨[.e (.var 15), .e (.var 16), .e (.var 17), .e (.var 18), .e (.var 19), .e (.var 20), .e (.var 21), .e (.var 22), .e (.var 23), .e (.var 24), .e (.var 25), .e (.var 26)], 87⟩, ⟨[.e (.var 27)], 75⟩], tout := [.int .i64, .int .i64, .int .i64, .int .i64, .int .i64, .int .i64, .int .i64, .int .i64, .int .i64, .int .i64, .int .i64, .int .i64, .int .i64, .int .i64, .int .i64, .int .i64, .int .i64, .int .i64, .int .i64, .int .i64, .int .i64, .int .i64, .int .i64, .int .i64, .int .i64, .int .i64, .int .i64, .bool], gout := [] }
def cl_mcell01 : List (Nat × Sig) := [(67, sg_times), (68, sg_add)]
theorem run_mcell01 : run ⟨Tryd.prog, glb, cl_mcell01⟩ [] Tryd.f90 sg_mcell01 (Tryd.f90.body.getD .skip) = tr_mcell01 := by kernel_rfl
theorem om_mcell01 : ΩOK ⟨Tryd.prog, glb, cl_mcell01⟩ (specsOf Fs_mcell01) := (ΩOK_cons cong_times Tryd.call67 (ΩOK_cons cong_add Tryd.call68 ΩOK_nil))
theorem con_mcell01 : ConOK Tryd.prog glb 90 sg_mcell01 F_mcell01.spec := conOK_tree om_mcell01 mixed Tryd.func90 (by kernel_rfl) run_mcell01
theorem cong_mcell01 : ConOK Tryd.prog glb 90 sg_mcell01 G_mcell01.spec := (con_mcell01).as as_mcell01

def sg_mcell10 : Sig := { args := [.s (.e (.int .i64 (1))), .s (.e (.int .i64 (0))), .s (.p (.own 0) 0), .s (.p (.own 1) 0), .s (.p (.own 2) 0)], pre := [⟨[.p (.own 3) 0], 73⟩, ⟨[.e (.var 0), .e (.var 1), .e (.var 2), .e (.var 3), .e (.var 4), .e (.var 5), .e (.var 6), .e (.var 7), .e (.var 8), .e (.var 9), .e (.var 10), .e (.var 11)], 87⟩, ⟨[.e (.var 12), .e (.var 13), .e (.var 14), .e (.var 15), .e (.var 16), .e (.var 17), .e (.var 18), .e (.var 19), .e (.var 20), .e (.var 21), .e (.var 22), .e (.var 23)], 87⟩, ⟨[.e (.var 24)], 75⟩], tin := [.int .i64, .int .i64, .int .i64, .int .i64, .int .i64, .int .i64, .int .i64, .int .i64, .int .i64, .int .i64, .int .i64, .int .i64, .int .i64, .int .i64, .int .i64, .int .i64, .int .i64, .int .i64, .int .i64, .int .i64, .int .i64, .int .i64, .int .i64, .int .i64, .bool], gin := [], res := .c (.ag [.e (.var 0), .e (.var 1), .e (.var 2)]), post := [⟨[.p (.own 3) 0], 73⟩, ⟨[.e (.var 3), .e (.var 4), .e (.var 5), .e (.var 6), .e (.var 7), .e (.var 8), .e (.var 9), .e (.var 10), .e (.var 11), .e (.var 12), .e (.var 13), .e (.var 14)], 87⟩, ⟨[.e (.var 15), .e (.var 16), .e (.var 17), .e (.var 18), .e (.var 19), .e (.var 20), .e (.var 21), .e (.var 22), .e (.var 23), .e (.var 24), .e (.var 25), .e (.var 26)], 87⟩, ⟨[.e (.var 27)], 75⟩], tout := [.int .i64, .int .i64, .int .i64, .int .i64, .int .i64, .int .i64, .int .i64, .int .i64, .int .i64, .int .i64, .int .i64, .int .i64, .int .i64, .int .i64, .int .i64, .int .i64, .int .i64, .int .i64, .int .i64, .int .i64, .int .i64, .int .i64, .int .i64, .int .i64, .int .i64, .int .i64, .int .i64, .bool], gout := [] }
def cl_mcell10 : List (Nat × Sig) := [(67, sg_times), (68, sg_add)]
theorem run_mcell10 : run ⟨Tryd.prog, glb, cl_mcell10⟩ [] Tryd.f90 sg_mcell10 (Tryd.f90.body.getD .skip) = tr_mcell10 := by kernel_rfl
theorem om_mcell10 : ΩOK ⟨Tryd.prog, glb, cl_mcell10⟩ (specsOf Fs_mcell10) := (ΩOK_cons cong_times Tryd.call67 (ΩOK_cons cong_add Tryd.call68 ΩOK_nil))
theorem con_mcell10 : ConOK Tryd.prog glb 90 sg_mcell10 F_mcell10.spec := conOK_tree om_mcell10 mixed Tryd.func90 (by kernel_rfl) run_mcell10
theorem cong_mcell10 : ConOK Tryd.prog glb 90 sg_mcell10 G_mcell10.spec := (con_mcell10).as as_mcell10

def sg_mcell11 : Sig := { args := [.s (.e (.int .i64 (1))), .s (.e (.int .i64 (1))), .s (.p (.own 0) 0), .s (.p (.own 1) 0), .s (.p (.own 2) 0)], pre := [⟨[.p (.own 3) 0], 73⟩, ⟨[.e (.var 0), .e (.var 1), .e (.var 2), .e (.var 3), .e (.var 4), .e (.var 5), .e (.var 6), .e (.var 7), .e (.var 8), .e (.var 9), .e (.var 10), .e (.var 11)], 87⟩, ⟨[.e (.var 12), .e (.var 13), .e (.var 14), .e (.var 15), .e (.var 16), .e (.var 17), .e (.var 18), .e (.var 19), .e (.var 20), .e (.var 21), .e (.var 22), .e (.var 23)], 87⟩, ⟨[.e (.var 24)], 75⟩], tin := [.int .i64, .int .i64, .int .i64, .int .i64, .int .i64, .int .i64, .int .i64, .int .i64, .int .i64, .int .i64, .int .i64, .int .i64, .int .i64, .int .i64, .int .i64, .int .i64, .int .i64, .int .i64, .int .i64, .int .i64, .int .i64, .int .i64, .int .i64, .int .i64, .bool], gin := [], res := .c (.ag [.e (.var 0), .e (.var 1), .e (.var 2)]), post := [⟨[.p (.own 3) 0], 73⟩, ⟨[.e (.var 3), .e (.var 4), .e (.var 5), .e (.var 6), .e (.var 7), .e (.var 8), .e (.var 9), .e (.var 10), .e (.var 11), .e (.var 12), .e (.var 13), .e (.var 14)], 87⟩, ⟨[.e (.var 15), .e (.var 16), .e (.var 17), .e (.var 18), .e (.var 19), .e (.var 20), .e (.var 21), .e (.var 22), .e (.var 23), .e (.var 24), .e (.var 25), .e (.var 26)], 87⟩, ⟨[.e (.var 27)], 75⟩], tout := [.int .i64, .int .i64, .int .i64, .int .i64, .int .i64, .int .i64, .int .i64, .int .i64, .int .i64, .int .i64, .int .i64, .int .i64, .int .i64, .int .i64, .int .i64, .int .i64, .int .i64, .int .i64, .int .i64, .int .i64, .int .i64, .int .i64, .int .i64, .int .i64, .int .i64, .int .i64, .int .i64, .bool], gout := [] }
def cl_mcell11 : List (Nat × Sig) := [(67, sg_times), (68, sg_add)]
theorem run_mcell11 : run ⟨Tryd.prog, glb, cl_mcell11⟩ [] Tryd.f90 sg_mcell11 (Tryd.f90.body.getD .skip) = tr_mcell11 := by kernel_rfl
theorem om_mcell11 : ΩOK ⟨Tryd.prog, glb, cl_mcell11⟩ (specsOf Fs_mcell11) := (ΩOK_cons cong_times Tryd.call67 (ΩOK_cons cong_add Tryd.call68 ΩOK_nil))
theorem con_mcell11 : ConOK Tryd.prog glb 90 sg_mcell11 F_mcell11.spec := conOK_tree om_mcell11 mixed Tryd.func90 (by kernel_rfl) run_mcell11
theorem cong_mcell11 : ConOK Tryd.prog glb 90 sg_mcell11 G_mcell11.spec := (con_mcell11).as as_mcell11

def sg_gotMat : Sig := { args := [.s (.p (.own 0) 0), .ag [.e (.var 0), .e (.var 1), .e (.var 2), .e (.var 3), .e (.var 4), .e (.var 5), .e (.var 6), .e (.var 7), .e (.var 8), .e (.var 9), .e (.var 10), .e (.var 11)]], pre := [⟨[.e (.var 12)], 75⟩], tin := [.int .i64, .int .i64, .int .i64, .int .i64, .int .i64, .int .i64, .int .i64, .int .i64, .int .i64, .int .i64, .int .i64, .int .i64, .bool], gin := [], res := .tu [.ag [.e (.var 0), .e (.var 1), .e (.var 2), .e (.var 3), .e (.var 4), .e (.var 5), .e (.var 6), .e (.var 7), .e (.var 8), .e (.var 9), .e (.var 10), .e (.var 11)], .s (.e (.var 12))], post := [⟨[.e (.var 13)], 75⟩], tout := [.int .i64, .int .i64, .int .i64, .int .i64, .int .i64, .int .i64, .int .i64, .int .i64, .int .i64, .int .i64, .int .i64, .int .i64, .bool, .bool], gout := [] }
def cl_gotMat : List (Nat × Sig) := []
theorem run_gotMat : run ⟨Tryd.prog, glb, cl_gotMat⟩ [] Tryd.f91 sg_gotMat (Tryd.f91.body.getD .skip) = tr_gotMat := by kernel_rfl
theorem om_gotMat : ΩOK ⟨Tryd.prog, glb, cl_gotMat⟩ (specsOf Fs_gotMat) := ΩOK_nil
theorem con_gotMat : ConOK Tryd.prog glb 91 sg_gotMat F_gotMat.spec := conOK_tree om_gotMat mixed Tryd.func91 (by kernel_rfl) run_gotMat
theorem cong_gotMat : ConOK Tryd.prog glb 91 sg_gotMat G_gotMat.spec := (con_gotMat).as as_gotMat

def sg_iMatTimes : Sig := { args := [.ag [.e (.var 0), .e (.var 1), .e (.var 2), .e (.var 3), .e (.var 4), .e (.var 5), .e (.var 6), .e (.var 7), .e (.var 8), .e (.var 9), .e (.var 10), .e (.var 11)], .ag [.e (.var 12), .e (.var 13), .e (.var 14), .e (.var 15), .e (.var 16), .e (.var 17), .e (.var 18), .e (.var 19), .e (.var 20), .e (.var 21), .e (.var 22), .e (.var 23)]], pre := [], tin := [.int .i64, .int .i64, .int .i64, .int .i64, .int .i64, .int .i64, .int .i64, .int .i64, .int .i64, .int .i64, .int .i64, .int .i64, .int .i64, .int .i64, .int .i64, .int .i64, .int .i64, .int .i64, .int .i64, .int .i64, .int .i64, .int .i64, .int .i64, .int .i64], gin := [], res := .tu [.ag [.e (.var 0), .e (.var 1), .e (.var 2), .e (.var 3), .e (.var 4), .e (.var 5), .e (.var 6), .e (.var 7), .e (.var 8), .e (.var 9), .e (.var 10), .e (.var 11)], .s (.e (.var 12))], post := [], tout := [.int .i64, .int .i64, .int .i64, .int .i64, .int .i64, .int .i64, .int .i64, .int .i64, .int .i64, .int .i64, .int .i64, .int .i64, .bool], gout := [] }
def cl_iMatTimes : List (Nat × Sig) := [(81, sg_iMatValid), (53, sg_need), (90, sg_mcell00), (90, sg_mcell01), (90, sg_mcell10), (90, sg_mcell11), (91, sg_gotMat)]
theorem run_iMatTimes : run ⟨Tryd.prog, glb, cl_iMatTimes⟩ [] Tryd.f80 sg_iMatTimes (Tryd.f80.body.getD .skip) = tr_iMatTimes := by kernel_rfl
theorem om_iMatTimes : ΩOK ⟨Tryd.prog, glb, cl_iMatTimes⟩ (specsOf Fs_iMatTimes) := (ΩOK_cons cong_iMatValid Tryd.call81 (ΩOK_cons cong_need Tryd.call53 (ΩOK_cons cong_mcell00 Tryd.call90 (ΩOK_cons cong_mcell01 Tryd.call90 (ΩOK_cons cong_mcell10 Tryd.call90 (ΩOK_cons cong_mcell11 Tryd.call90 (ΩOK_cons cong_gotMat Tryd.call91 ΩOK_nil)))))))
theorem con_iMatTimes : ConOK Tryd.prog glb 80 sg_iMatTimes F_iMatTimes.spec := conOK_tree om_iMatTimes mixed Tryd.func80 (by kernel_rfl) run_iMatTimes
theorem cong_iMatTimes : ConOK Tryd.prog glb 80 sg_iMatTimes G_iMatTimes.spec := (con_iMatTimes).as as_iMatTimes

def sg_wholeM : Sig := { args := [.s (.e (.int .i64 (-1)))], pre := [], tin := [], gin := [], res := .c (.ag [.e (.int .i64 (-1)), .e (.int .i64 (0)), .e (.int .i64 (1))]), post := [], tout := [], gout := [] }
def cl_wholeM : List (Nat × Sig) := []
theorem run_wholeM : run ⟨Tryd.prog, glb, cl_wholeM⟩ [] Tryd.f88 sg_wholeM (Tryd.f88.body.getD .skip) = tr_wholeM := by kernel_rfl
theorem om_wholeM : ΩOK ⟨Tryd.prog, glb, cl_wholeM⟩ (specsOf Fs_wholeM) := ΩOK_nil
theorem con_wholeM : ConOK Tryd.prog glb 88 sg_wholeM F_wholeM.spec := conOK_tree om_wholeM mixed Tryd.func88 (by kernel_rfl) run_wholeM

def sg_iMatScaleM : Sig := { args := [.ag [.e (.var 0), .e (.var 1), .e (.var 2), .e (.var 3), .e (.var 4), .e (.var 5), .e (.var 6), .e (.var 7), .e (.var 8), .e (.var 9), .e (.var 10), .e (.var 11)], .ag [.e (.int .i64 (-1)), .e (.int .i64 (0)), .e (.int .i64 (1))]], pre := [], tin := [.int .i64, .int .i64, .int .i64, .int .i64, .int .i64, .int .i64, .int .i64, .int .i64, .int .i64, .int .i64, .int .i64, .int .i64], gin := [], res := .tu [.ag [.e (.var 0), .e (.var 1), .e (.var 2), .e (.var 3), .e (.var 4), .e (.var 5), .e (.var 6), .e (.var 7), .e (.var 8), .e (.var 9), .e (.var 10), .e (.var 11)], .s (.e (.var 12))], post := [], tout := [.int .i64, .int .i64, .int .i64, .int .i64, .int .i64, .int .i64, .int .i64, .int .i64, .int .i64, .int .i64, .int .i64, .int .i64, .bool], gout := [] }
def cl_iMatScaleM : List (Nat × Sig) := [(81, sg_iMatValid), (57, sg_iFracValid), (53, sg_need), (67, sg_times), (91, sg_gotMat)]
theorem run_iMatScaleM : run ⟨Tryd.prog, glb, cl_iMatScaleM⟩ [] Tryd.f89 sg_iMatScaleM (Tryd.f89.body.getD .skip) = tr_iMatScaleM := by kernel_rfl
theorem om_iMatScaleM : ΩOK ⟨Tryd.prog, glb, cl_iMatScaleM⟩ (specsOf Fs_iMatScaleM) := (ΩOK_cons cong_iMatValid Tryd.call81 (ΩOK_cons cong_iFracValid Tryd.call57 (ΩOK_cons cong_need Tryd.call53 (ΩOK_cons cong_times Tryd.call67 (ΩOK_cons cong_gotMat Tryd.call91 ΩOK_nil)))))
theorem con_iMatScaleM : ConOK Tryd.prog glb 89 sg_iMatScaleM F_iMatScaleM.spec := conOK_tree om_iMatScaleM mixed Tryd.func89 (by kernel_rfl) run_iMatScaleM
theorem cong_iMatScaleM : ConOK Tryd.prog glb 89 sg_iMatScaleM G_iMatScaleM.spec := (con_iMatScaleM).as as_iMatScaleM

def sg_iFracOver : Sig := { args := [.ag [.e (.var 0), .e (.var 1), .e (.var 2)], .ag [.e (.var 3), .e (.var 4), .e (.var 5)]], pre := [], tin := [.int .i64, .int .i64, .int .i64, .int .i64, .int .i64, .int .i64], gin := [], res := .tu [.ag [.e (.var 0), .e (.var 1), .e (.var 2)], .s (.e (.var 3))], post := [], tout := [.int .i64, .int .i64, .int .i64, .bool], gout := [] }
def cl_iFracOver : List (Nat × Sig) := [(57, sg_iFracValid), (87, sg_lowest), (85, sg_iFracTimes)]
theorem run_iFracOver : run ⟨Tryd.prog, glb, cl_iFracOver⟩ [] Tryd.f70 sg_iFracOver (Tryd.f70.body.getD .skip) = tr_iFracOver := by kernel_rfl
theorem om_iFracOver : ΩOK ⟨Tryd.prog, glb, cl_iFracOver⟩ (specsOf Fs_iFracOver) := (ΩOK_cons cong_iFracValid Tryd.call57 (ΩOK_cons cong_lowest Tryd.call87 (ΩOK_cons cong_iFracTimes Tryd.call85 ΩOK_nil)))
theorem con_iFracOver : ConOK Tryd.prog glb 70 sg_iFracOver F_iFracOver.spec := conOK_tree om_iFracOver mixed Tryd.func70 (by kernel_rfl) run_iFracOver
theorem cong_iFracOver : ConOK Tryd.prog glb 70 sg_iFracOver G_iFracOver.spec := (con_iFracOver).as as_iFracOver

def sg_over : Sig := { args := [.s (.p (.own 0) 0), .ag [.e (.var 0), .e (.var 1), .e (.var 2)], .ag [.e (.var 3), .e (.var 4), .e (.var 5)]], pre := [⟨[.e (.var 6)], 75⟩], tin := [.int .i64, .int .i64, .int .i64, .int .i64, .int .i64, .int .i64, .bool], gin := [], res := .c (.ag [.e (.var 0), .e (.var 1), .e (.var 2)]), post := [⟨[.e (.var 3)], 75⟩], tout := [.int .i64, .int .i64, .int .i64, .bool], gout := [] }
def cl_over : List (Nat × Sig) := [(70, sg_iFracOver), (69, sg_keep)]
theorem run_over : run ⟨Tryd.prog, glb, cl_over⟩ [] Tryd.f55 sg_over (Tryd.f55.body.getD .skip) = tr_over := by kernel_rfl
theorem om_over : ΩOK ⟨Tryd.prog, glb, cl_over⟩ (specsOf Fs_over) := (ΩOK_cons cong_iFracOver Tryd.call70 (ΩOK_cons con_keep Tryd.call69 ΩOK_nil))
theorem con_over : ConOK Tryd.prog glb 55 sg_over F_over.spec := conOK_tree om_over mixed Tryd.func55 (by kernel_rfl) run_over
theorem cong_over : ConOK Tryd.prog glb 55 sg_over G_over.spec := (con_over).as as_over

def sg_layerMat : Sig := { args := [.ag [.e (.var 0), .e (.var 1), .e (.var 2), .e (.var 3)]], pre := [], tin := [.int .i64, .int .i64, .int .i64, .int .i64], gin := [], res := .tu [.ag [.e (.var 0), .e (.var 1), .e (.var 2), .e (.var 3), .e (.var 4), .e (.var 5), .e (.var 6), .e (.var 7), .e (.var 8), .e (.var 9), .e (.var 10), .e (.var 11)], .s (.e (.var 12))], post := [], tout := [.int .i64, .int .i64, .int .i64, .int .i64, .int .i64, .int .i64, .int .i64, .int .i64, .int .i64, .int .i64, .int .i64, .int .i64, .bool], gout := [] }
def cl_layerMat : List (Nat × Sig) := [(88, sg_wholeM), (55, sg_over), (67, sg_times), (89, sg_iMatScaleM)]
theorem run_layerMat : run ⟨Tryd.prog, glb, cl_layerMat⟩ [] Tryd.f79 sg_layerMat (Tryd.f79.body.getD .skip) = tr_layerMat := by kernel_rfl
theorem om_layerMat : ΩOK ⟨Tryd.prog, glb, cl_layerMat⟩ (specsOf Fs_layerMat) := (ΩOK_cons con_wholeM Tryd.call88 (ΩOK_cons cong_over Tryd.call55 (ΩOK_cons cong_times Tryd.call67 (ΩOK_cons cong_iMatScaleM Tryd.call89 ΩOK_nil))))
theorem con_layerMat : ConOK Tryd.prog glb 79 sg_layerMat F_layerMat.spec := conOK_tree om_layerMat mixed Tryd.func79 (by kernel_rfl) run_layerMat
theorem cong_layerMat : ConOK Tryd.prog glb 79 sg_layerMat G_layerMat.spec := (con_layerMat).as as_layerMat

def sg_iFilmMat : Sig := { args := [.s (.e (.var 0))], pre := [], tin := [.sl, .row .i64 4], gin := [(0, 1, 4)], res := .tu [.ag [.e (.var 0), .e (.var 1), .e (.var 2), .e (.var 3), .e (.var 4), .e (.var 5), .e (.var 6), .e (.var 7), .e (.var 8), .e (.var 9), .e (.var 10), .e (.var 11)], .s (.e (.var 12))], post := [], tout := [.int .i64, .int .i64, .int .i64, .int .i64, .int .i64, .int .i64, .int .i64, .int .i64, .int .i64, .int .i64, .int .i64, .int .i64, .bool], gout := [] }
def cl_iFilmMat : List (Nat × Sig) := [(31, sg_iFilmValid), (79, sg_layerMat), (80, sg_iMatTimes)]
theorem run_iFilmMat : run ⟨Tryd.prog, glb, cl_iFilmMat⟩ [(0, ⟨[(18, .int .i64)], [(1, 0, .int .i64), (1, 1, .int .i64), (1, 2, .int .i64), (1, 3, .int .i64), (1, 4, .int .i64), (1, 5, .int .i64), (1, 6, .int .i64), (1, 7, .int .i64), (1, 8, .int .i64), (1, 9, .int .i64), (1, 10, .int .i64), (1, 11, .int .i64)], none⟩)] Tryd.f65 sg_iFilmMat (Tryd.f65.body.getD .skip) = tr_iFilmMat := by kernel_rfl
theorem om_iFilmMat : ΩOK ⟨Tryd.prog, glb, cl_iFilmMat⟩ (specsOf Fs_iFilmMat) := (ΩOK_cons con_iFilmValid Tryd.call31 (ΩOK_cons cong_layerMat Tryd.call79 (ΩOK_cons cong_iMatTimes Tryd.call80 ΩOK_nil)))
theorem con_iFilmMat : ConOK Tryd.prog glb 65 sg_iFilmMat F_iFilmMat.spec := conOK_of om_iFilmMat mixed Tryd.func65 (by kernel_rfl) run_iFilmMat (fun ins K ht h => sat_iFilmMat Tryd.prog ins K ht h.1 h.2)

def sg_mrow0 : Sig := { args := [.s (.e (.int .i64 (0))), .s (.p (.own 0) 0), .s (.p (.own 1) 0), .s (.p (.own 2) 0)], pre := [⟨[.p (.own 3) 0], 73⟩, ⟨[.e (.var 0), .e (.var 1), .e (.var 2), .e (.var 3), .e (.var 4), .e (.var 5), .e (.var 6), .e (.var 7), .e (.var 8), .e (.var 9), .e (.var 10), .e (.var 11)], 87⟩, ⟨[.e (.var 12), .e (.var 13), .e (.var 14), .e (.var 15), .e (.var 16), .e (.var 17)], 91⟩, ⟨[.e (.var 18)], 75⟩], tin := [.int .i64, .int .i64, .int .i64, .int .i64, .int .i64, .int .i64, .int .i64, .int .i64, .int .i64, .int .i64, .int .i64, .int .i64, .int .i64, .int .i64, .int .i64, .int .i64, .int .i64, .int .i64, .bool], gin := [], res := .c (.ag [.e (.var 0), .e (.var 1), .e (.var 2)]), post := [⟨[.p (.own 3) 0], 73⟩, ⟨[.e (.var 3), .e (.var 4), .e (.var 5), .e (.var 6), .e (.var 7), .e (.var 8), .e (.var 9), .e (.var 10), .e (.var 11), .e (.var 12), .e (.var 13), .e (.var 14)], 87⟩, ⟨[.e (.var 15), .e (.var 16), .e (.var 17), .e (.var 18), .e (.var 19), .e (.var 20)], 91⟩, ⟨[.e (.var 21)], 75⟩], tout := [.int .i64, .int .i64, .int .i64, .int .i64, .int .i64, .int .i64, .int .i64, .int .i64, .int .i64, .int .i64, .int .i64, .int .i64, .int .i64, .int .i64, .int .i64, .int .i64, .int .i64, .int .i64, .int .i64, .int .i64, .int .i64, .bool], gout := [] }
def cl_mrow0 : List (Nat × Sig) := [(67, sg_times), (68, sg_add)]
theorem run_mrow0 : run ⟨Tryd.prog, glb, cl_mrow0⟩ [] Tryd.f83 sg_mrow0 (Tryd.f83.body.getD .skip) = tr_mrow0 := by kernel_rfl
theorem om_mrow0 : ΩOK ⟨Tryd.prog, glb, cl_mrow0⟩ (specsOf Fs_mrow0) := (ΩOK_cons cong_times Tryd.call67 (ΩOK_cons cong_add Tryd.call68 ΩOK_nil))
theorem con_mrow0 : ConOK Tryd.prog glb 83 sg_mrow0 F_mrow0.spec := conOK_tree om_mrow0 mixed Tryd.func83 (by kernel_rfl) run_mrow0
theorem cong_mrow0 : ConOK Tryd.prog glb 83 sg_mrow0 G_mrow0.spec := (con_mrow0).as as_mrow0

def sg_mrow1 : Sig := { args := [.s (.e (.int .i64 (1))), .s (.p (.own 0) 0), .s (.p (.own 1) 0), .s (.p (.own 2) 0)], pre := [⟨[.p (.own 3) 0], 73⟩, ⟨[.e (.var 0), .e (.var 1), .e (.var 2), .e (.var 3), .e (.var 4), .e (.var 5), .e (.var 6), .e (.var 7), .e (.var 8), .e (.var 9), .e (.var 10), .e (.var 11)], 87⟩, ⟨[.e (.var 12), .e (.var 13), .e (.var 14), .e (.var 15), .e (.var 16), .e (.var 17)], 91⟩, ⟨[.e (.var 18)], 75⟩], tin := [.int .i64, .int .i64, .int .i64, .int .i64, .int .i64, .int .i64, .int .i64, .int .i64, .int .i64, .int .i64, .int .i64, .int .i64, .int .i64, .int .i64, .int .i64, .int .i64, .int .i64, .int .i64, .bool], gin := [], res := .c (.ag [.e (.var 0), .e (.var 1), .e (.var 2)]), post := [⟨[.p (.own 3) 0], 73⟩, ⟨[.e (.var 3), .e (.var 4), .e (.var 5), .e (.var 6), .e (.var 7), .e (.var 8), .e (.var 9), .e (.var 10), .e (.var 11), .e (.var 12), .e (.var 13), .e (.var 14)], 87⟩, ⟨[.e (.var 15), .e (.var 16), .e (.var 17), .e (.var 18), .e (.var 19), .e (.var 20)], 91⟩, ⟨[.e (.var 21)], 75⟩], tout := [.int .i64, .int .i64, .int .i64, .int .i64, .int .i64, .int .i64, .int .i64, .int .i64, .int .i64, .int .i64, .int .i64, .int .i64, .int .i64, .int .i64, .int .i64, .int .i64, .int .i64, .int .i64, .int .i64, .int .i64, .int .i64, .bool], gout := [] }
def cl_mrow1 : List (Nat × Sig) := [(67, sg_times), (68, sg_add)]
theorem run_mrow1 : run ⟨Tryd.prog, glb, cl_mrow1⟩ [] Tryd.f83 sg_mrow1 (Tryd.f83.body.getD .skip) = tr_mrow1 := by kernel_rfl
theorem om_mrow1 : ΩOK ⟨Tryd.prog, glb, cl_mrow1⟩ (specsOf Fs_mrow1) := (ΩOK_cons cong_times Tryd.call67 (ΩOK_cons cong_add Tryd.call68 ΩOK_nil))
theorem con_mrow1 : ConOK Tryd.prog glb 83 sg_mrow1 F_mrow1.spec := conOK_tree om_mrow1 mixed Tryd.func83 (by kernel_rfl) run_mrow1
theorem cong_mrow1 : ConOK Tryd.prog glb 83 sg_mrow1 G_mrow1.spec := (con_mrow1).as as_mrow1

def sg_gotJones : Sig := { args := [.s (.p (.own 0) 0), .ag [.e (.var 0), .e (.var 1), .e (.var 2), .e (.var 3), .e (.var 4), .e (.var 5)]], pre := [⟨[.e (.var 6)], 75⟩], tin := [.int .i64, .int .i64, .int .i64, .int .i64, .int .i64, .int .i64, .bool], gin := [], res := .tu [.ag [.e (.var 0), .e (.var 1), .e (.var 2), .e (.var 3), .e (.var 4), .e (.var 5)], .s (.e (.var 6))], post := [⟨[.e (.var 7)], 75⟩], tout := [.int .i64, .int .i64, .int .i64, .int .i64, .int .i64, .int .i64, .bool, .bool], gout := [] }
def cl_gotJones : List (Nat × Sig) := []
theorem run_gotJones : run ⟨Tryd.prog, glb, cl_gotJones⟩ [] Tryd.f84 sg_gotJones (Tryd.f84.body.getD .skip) = tr_gotJones := by kernel_rfl
theorem om_gotJones : ΩOK ⟨Tryd.prog, glb, cl_gotJones⟩ (specsOf Fs_gotJones) := ΩOK_nil
theorem con_gotJones : ConOK Tryd.prog glb 84 sg_gotJones F_gotJones.spec := conOK_tree om_gotJones mixed Tryd.func84 (by kernel_rfl) run_gotJones
theorem cong_gotJones : ConOK Tryd.prog glb 84 sg_gotJones G_gotJones.spec := (con_gotJones).as as_gotJones

def sg_gotFrac : Sig := { args := [.s (.p (.own 0) 0), .ag [.e (.var 0), .e (.var 1), .e (.var 2)]], pre := [⟨[.e (.var 3)], 75⟩], tin := [.int .i64, .int .i64, .int .i64, .bool], gin := [], res := .tu [.ag [.e (.var 0), .e (.var 1), .e (.var 2)], .s (.e (.var 3))], post := [⟨[.e (.var 4)], 75⟩], tout := [.int .i64, .int .i64, .int .i64, .bool, .bool], gout := [] }
def cl_gotFrac : List (Nat × Sig) := []
theorem run_gotFrac : run ⟨Tryd.prog, glb, cl_gotFrac⟩ [] Tryd.f54 sg_gotFrac (Tryd.f54.body.getD .skip) = tr_gotFrac := by kernel_rfl
theorem om_gotFrac : ΩOK ⟨Tryd.prog, glb, cl_gotFrac⟩ (specsOf Fs_gotFrac) := ΩOK_nil
theorem con_gotFrac : ConOK Tryd.prog glb 54 sg_gotFrac F_gotFrac.spec := conOK_tree om_gotFrac mixed Tryd.func54 (by kernel_rfl) run_gotFrac
theorem cong_gotFrac : ConOK Tryd.prog glb 54 sg_gotFrac G_gotFrac.spec := (con_gotFrac).as as_gotFrac

def sg_iJonesValid : Sig := { args := [.ag [.e (.var 0), .e (.var 1), .e (.var 2), .e (.var 3), .e (.var 4), .e (.var 5)]], pre := [], tin := [.int .i64, .int .i64, .int .i64, .int .i64, .int .i64, .int .i64], gin := [], res := .c (.s (.e (.var 0))), post := [], tout := [.bool], gout := [] }
def cl_iJonesValid : List (Nat × Sig) := [(57, sg_iFracValid)]
theorem run_iJonesValid : run ⟨Tryd.prog, glb, cl_iJonesValid⟩ [] Tryd.f82 sg_iJonesValid (Tryd.f82.body.getD .skip) = tr_iJonesValid := by kernel_rfl
theorem om_iJonesValid : ΩOK ⟨Tryd.prog, glb, cl_iJonesValid⟩ (specsOf Fs_iJonesValid) := (ΩOK_cons cong_iFracValid Tryd.call57 ΩOK_nil)
theorem con_iJonesValid : ConOK Tryd.prog glb 82 sg_iJonesValid F_iJonesValid.spec := conOK_tree om_iJonesValid mixed Tryd.func82 (by kernel_rfl) run_iJonesValid
theorem cong_iJonesValid : ConOK Tryd.prog glb 82 sg_iJonesValid G_iJonesValid.spec := (con_iJonesValid).as as_iJonesValid

def sg_iMatApply : Sig := { args := [.ag [.e (.var 0), .e (.var 1), .e (.var 2), .e (.var 3), .e (.var 4), .e (.var 5), .e (.var 6), .e (.var 7), .e (.var 8), .e (.var 9), .e (.var 10), .e (.var 11)], .ag [.e (.var 12), .e (.var 13), .e (.var 14), .e (.var 15), .e (.var 16), .e (.var 17)]], pre := [], tin := [.int .i64, .int .i64, .int .i64, .int .i64, .int .i64, .int .i64, .int .i64, .int .i64, .int .i64, .int .i64, .int .i64, .int .i64, .int .i64, .int .i64, .int .i64, .int .i64, .int .i64, .int .i64], gin := [], res := .tu [.ag [.e (.var 0), .e (.var 1), .e (.var 2), .e (.var 3), .e (.var 4), .e (.var 5)], .s (.e (.var 6))], post := [], tout := [.int .i64, .int .i64, .int .i64, .int .i64, .int .i64, .int .i64, .bool], gout := [] }
def cl_iMatApply : List (Nat × Sig) := [(81, sg_iMatValid), (82, sg_iJonesValid), (53, sg_need), (83, sg_mrow0), (83, sg_mrow1), (84, sg_gotJones)]
theorem run_iMatApply : run ⟨Tryd.prog, glb, cl_iMatApply⟩ [] Tryd.f66 sg_iMatApply (Tryd.f66.body.getD .skip) = tr_iMatApply := by kernel_rfl
theorem om_iMatApply : ΩOK ⟨Tryd.prog, glb, cl_iMatApply⟩ (specsOf Fs_iMatApply) := (ΩOK_cons cong_iMatValid Tryd.call81 (ΩOK_cons cong_iJonesValid Tryd.call82 (ΩOK_cons cong_need Tryd.call53 (ΩOK_cons cong_mrow0 Tryd.call83 (ΩOK_cons cong_mrow1 Tryd.call83 (ΩOK_cons cong_gotJones Tryd.call84 ΩOK_nil))))))
theorem con_iMatApply : ConOK Tryd.prog glb 66 sg_iMatApply F_iMatApply.spec := conOK_tree om_iMatApply mixed Tryd.func66 (by kernel_rfl) run_iMatApply
theorem cong_iMatApply : ConOK Tryd.prog glb 66 sg_iMatApply G_iMatApply.spec := (con_iMatApply).as as_iMatApply

def sg_film : Sig := { args := [.s (.e (.var 0)), .ag [.e (.var 1), .e (.var 2), .e (.var 3)], .ag [.e (.var 4), .e (.var 5), .e (.var 6)]], pre := [], tin := [.sl, .int .i64, .int .i64, .int .i64, .int .i64, .int .i64, .int .i64, .row .i64 4], gin := [(0, 7, 4)], res := .tu [.ag [.e (.var 0), .e (.var 1), .e (.var 2)], .ag [.e (.var 3), .e (.var 4), .e (.var 5)], .ag [.e (.var 6), .e (.var 7), .e (.var 8)], .s (.e (.var 9))], post := [], tout := [.int .i64, .int .i64, .int .i64, .int .i64, .int .i64, .int .i64, .int .i64, .int .i64, .int .i64, .bool], gout := [] }
def cl_film : List (Nat × Sig) := [(65, sg_iFilmMat), (39, sg_indexOk), (66, sg_iMatApply), (53, sg_need), (67, sg_times), (68, sg_add)]
theorem run_film : run ⟨Tryd.prog, glb, cl_film⟩ [] Tryd.f52 sg_film (Tryd.f52.body.getD .skip) = tr_film := by kernel_rfl
theorem om_film : ΩOK ⟨Tryd.prog, glb, cl_film⟩ (specsOf Fs_film) := (ΩOK_cons con_iFilmMat Tryd.call65 (ΩOK_cons cong_indexOk Tryd.call39 (ΩOK_cons cong_iMatApply Tryd.call66 (ΩOK_cons cong_need Tryd.call53 (ΩOK_cons cong_times Tryd.call67 (ΩOK_cons cong_add Tryd.call68 ΩOK_nil))))))
theorem con_film : ConOK Tryd.prog glb 52 sg_film F_film.spec := conOK_tree om_film mixed Tryd.func52 (by kernel_rfl) run_film
theorem cong_film : ConOK Tryd.prog glb 52 sg_film G_film.spec := (con_film).as as_film

def sg_iFilmReflected : Sig := { args := [.s (.e (.var 0)), .ag [.e (.var 1), .e (.var 2), .e (.var 3)], .ag [.e (.var 4), .e (.var 5), .e (.var 6)]], pre := [], tin := [.sl, .int .i64, .int .i64, .int .i64, .int .i64, .int .i64, .int .i64, .row .i64 4], gin := [(0, 7, 4)], res := .tu [.ag [.e (.var 0), .e (.var 1), .e (.var 2)], .s (.e (.var 3))], post := [], tout := [.int .i64, .int .i64, .int .i64, .bool], gout := [] }
def cl_iFilmReflected : List (Nat × Sig) := [(52, sg_film), (53, sg_need), (56, sg_less), (55, sg_over), (54, sg_gotFrac)]
theorem run_iFilmReflected : run ⟨Tryd.prog, glb, cl_iFilmReflected⟩ [] Tryd.f27 sg_iFilmReflected (Tryd.f27.body.getD .skip) = tr_iFilmReflected := by kernel_rfl
theorem om_iFilmReflected : ΩOK ⟨Tryd.prog, glb, cl_iFilmReflected⟩ (specsOf Fs_iFilmReflected) := (ΩOK_cons cong_film Tryd.call52 (ΩOK_cons cong_need Tryd.call53 (ΩOK_cons cong_less Tryd.call56 (ΩOK_cons cong_over Tryd.call55 (ΩOK_cons cong_gotFrac Tryd.call54 ΩOK_nil)))))
theorem con_iFilmReflected : ConOK Tryd.prog glb 27 sg_iFilmReflected F_iFilmReflected.spec := conOK_tree om_iFilmReflected mixed Tryd.func27 (by kernel_rfl) run_iFilmReflected
theorem cong_iFilmReflected : ConOK Tryd.prog glb 27 sg_iFilmReflected G_iFilmReflected.spec := (con_iFilmReflected).as as_iFilmReflected

def sg_pick : Sig := { args := [.s (.p (.own 0) 0), .s (.e (.var 0))], pre := [⟨[.e (.var 1), .e (.var 2)], 100⟩], tin := [.int .i64, .sl, .int .i64, .row .u8 1], gin := [(1, 3, 1)], res := .c (.s (.e (.var 0))), post := [⟨[.e (.var 1), .e (.var 2)], 100⟩], tout := [.int .i64, .sl, .int .i64], gout := [] }
def cl_pick : List (Nat × Sig) := []
theorem run_pick : run ⟨Tryd.prog, glb, cl_pick⟩ [] Tryd.f76 sg_pick (Tryd.f76.body.getD .skip) = tr_pick := by kernel_rfl
theorem om_pick : ΩOK ⟨Tryd.prog, glb, cl_pick⟩ (specsOf Fs_pick) := ΩOK_nil
theorem con_pick : ConOK Tryd.prog glb 76 sg_pick F_pick.spec := conOK_tree om_pick mixed Tryd.func76 (by kernel_rfl) run_pick

def sg_pickC : Sig := { args := [.s (.p (.own 0) 0), .s (.e (.var 0))], pre := [⟨[.e (.var 1), .e (.var 2)], 100⟩], tin := [.int .i64, .sl, .int .i64], gin := [], res := .c (.s (.e (.var 0))), post := [⟨[.e (.var 1), .e (.var 2)], 100⟩], tout := [.int .i64, .sl, .int .i64], gout := [] }
theorem con_pickC {cb : CodeB} (hk : CodeOk cb) (hG : Known cb (glb ++ cb.tail)) : ConOK Tryd.prog (glb ++ cb.tail) 76 sg_pickC (G_pick cb).spec := conOK_ghost (t := 100) hk hG con_pick.more (ghost_pick hk)


def sg_openC : Sig := { args := [.s (.e (.var 0))], pre := [], tin := [.sl], gin := [], res := .c (.s (.p (.own 0) 0)), post := [⟨[.e (.var 0), .e (.var 1)], 100⟩], tout := [.sl, .int .i64], gout := [] }
set_option maxHeartbeats 800000 in
set_option maxRecDepth 1000000 in
theorem open_short (a : Option Addr) (len cap : Nat) (w : World) (hl : len ≤ 2000) :
    Calls Tryd.prog 62 #[.slice a len cap] w fun e w' => e = .returned (.pointer (some ⟨w.heap.size, 0, none⟩)) ∧ w' = w.alloc (.cells #[.slice a len cap, .int .i64 0] 100) := by
  go_enter Tryd.func62, Tryd.ntmps62
  go_wp2
  go_ret
  exact ⟨rfl, rfl⟩
set_option maxHeartbeats 800000 in
set_option maxRecDepth 1000000 in
theorem open_long (a : Addr) (len cap : Nat) (w : World) (hl : ¬ len ≤ 2000) (hc : len ≤ cap) (hm : len ≤ 1048576) :
    Calls Tryd.prog 62 #[.slice (some a) len cap] w fun e w' => e = .returned (.pointer (some ⟨w.heap.size, 0, none⟩)) ∧ w' = w.alloc (.cells #[.slice (some a) 2000 cap, .int .i64 0] 100) := by
  go_enter Tryd.func62, Tryd.ntmps62
  go_wp2
  go_ret
  exact ⟨rfl, rfl⟩
theorem con_openC {cb : CodeB} (_ : CodeOk cb) (_ : Known cb (glb ++ cb.tail)) : ConOK Tryd.prog (glb ++ cb.tail) 62 sg_openC (G_open cb).spec := conOK_open (t := 100) open_short open_long


def sg_l91Frac : Sig := { args := [.s (.p (.own 0) 0)], pre := [⟨[.e (.var 0), .e (.var 1)], 100⟩], tin := [.sl, .int .i64], gin := [], res := .c (.ag [.e (.var 0), .e (.var 1), .e (.var 2)]), post := [⟨[.e (.var 3), .e (.var 4)], 100⟩], tout := [.int .i64, .int .i64, .int .i64, .sl, .int .i64], gout := [] }
def cl_l91Frac : List (Nat × Sig) := [(76, sg_pickC), (78, sg_l2Low)]
theorem run_l91Frac : (fun H : List (Nat × List Sc) => run ⟨Tryd.prog, glb ++ H, cl_l91Frac⟩ [] Tryd.f77 sg_l91Frac (Tryd.f77.body.getD .skip)) = fun _ => tr_l91Frac := by kernel_rfl
theorem om_l91Frac {cb : CodeB} (hk : CodeOk cb) (hG : Known cb (glb ++ cb.tail)) : ΩOK ⟨Tryd.prog, glb ++ cb.tail, cl_l91Frac⟩ (specsOf (Fs_l91Frac cb)) := (ΩOK_cons (con_pickC hk hG) Tryd.call76 (ΩOK_cons cong_l2Low.more Tryd.call78 ΩOK_nil))
theorem con_l91Frac {cb : CodeB} (hk : CodeOk cb) (hG : Known cb (glb ++ cb.tail)) : ConOK Tryd.prog (glb ++ cb.tail) 77 sg_l91Frac (F_l91Frac cb).spec := conOK_tree (om_l91Frac hk hG) mixed Tryd.func77 (by kernel_rfl) (congrFun run_l91Frac cb.tail)

def sg_revL : Sig := { args := [.s (.e (.var 0))], pre := [], tin := [.sl, .row .i64 4], gin := [(0, 1, 4)], res := .c (.s (.e (.var 0))), post := [], tout := [.sl, .row .i64 4], gout := [(0, 1, 4)] }
def cl_revL : List (Nat × Sig) := []
theorem run_revL : run ⟨Tryd.prog, glb, cl_revL⟩ [(0, ⟨[(3, .sl), (4, .int .i64)], [], some (0, .row .i64 4, 4, 49)⟩)] Tryd.f32 sg_revL (Tryd.f32.body.getD .skip) = tr_revL := by kernel_rfl
theorem om_revL : ΩOK ⟨Tryd.prog, glb, cl_revL⟩ (specsOf Fs_revL) := ΩOK_nil
theorem con_revL : ConOK Tryd.prog glb 32 sg_revL SP_revL := conOK_of om_revL mixed Tryd.func32 (by kernel_rfl) run_revL (fun ins K ht h => sat_revL Tryd.prog ins K ht h)

def sg_l92Index : Sig := { args := [.s (.p (.own 0) 0)], pre := [⟨[.e (.var 0), .e (.var 1)], 100⟩], tin := [.sl, .int .i64], gin := [], res := .c (.ag [.e (.var 0), .e (.var 1), .e (.var 2)]), post := [⟨[.e (.var 3), .e (.var 4)], 100⟩], tout := [.int .i64, .int .i64, .int .i64, .sl, .int .i64], gout := [] }
def cl_l92Index : List (Nat × Sig) := [(76, sg_pickC), (77, sg_l91Frac), (78, sg_l2Low)]
theorem run_l92Index : (fun H : List (Nat × List Sc) => run ⟨Tryd.prog, glb ++ H, cl_l92Index⟩ [] Tryd.f64 sg_l92Index (Tryd.f64.body.getD .skip)) = fun _ => tr_l92Index := by kernel_rfl
theorem om_l92Index {cb : CodeB} (hk : CodeOk cb) (hG : Known cb (glb ++ cb.tail)) : ΩOK ⟨Tryd.prog, glb ++ cb.tail, cl_l92Index⟩ (specsOf (Fs_l92Index cb)) := (ΩOK_cons (con_pickC hk hG) Tryd.call76 (ΩOK_cons (con_l91Frac hk hG) Tryd.call77 (ΩOK_cons cong_l2Low.more Tryd.call78 ΩOK_nil)))
theorem con_l92Index {cb : CodeB} (hk : CodeOk cb) (hG : Known cb (glb ++ cb.tail)) : ConOK Tryd.prog (glb ++ cb.tail) 64 sg_l92Index (F_l92Index cb).spec := conOK_tree (om_l92Index hk hG) mixed Tryd.func64 (by kernel_rfl) (congrFun run_l92Index cb.tail)

def sg_l92Film : Sig := { args := [.s (.p (.own 0) 0)], pre := [⟨[.e (.var 0), .e (.var 1)], 100⟩], tin := [.sl, .int .i64], gin := [], res := .c (.s (.e (.var 0))), post := [⟨[.e (.var 1), .e (.var 2)], 100⟩], tout := [.sl, .sl, .int .i64, .row .i64 4], gout := [(0, 3, 4)] }
def cl_l92Film : List (Nat × Sig) := [(76, sg_pickC), (64, sg_l92Index)]
theorem run_l92Film : (fun H : List (Nat × List Sc) => run ⟨Tryd.prog, glb ++ H, cl_l92Film⟩ [(0, ⟨[(3, .sl), (5, .int .i64)], [(0, 0, .sl), (0, 1, .int .i64)], some (0, .row .i64 4, 4, 49)⟩)] Tryd.f63 sg_l92Film (Tryd.f63.body.getD .skip)) = fun _ => tr_l92Film := by kernel_rfl
theorem om_l92Film {cb : CodeB} (hk : CodeOk cb) (hG : Known cb (glb ++ cb.tail)) : ΩOK ⟨Tryd.prog, glb ++ cb.tail, cl_l92Film⟩ (Ss_l92Film cb) := (ΩOK_consS (con_pickC hk hG) Tryd.call76 (ΩOK_consS (con_l92Index hk hG) Tryd.call64 ΩOK_nilS))
theorem con_l92Film {cb : CodeB} (hk : CodeOk cb) (hG : Known cb (glb ++ cb.tail)) : ConOK Tryd.prog (glb ++ cb.tail) 63 sg_l92Film (SP_l92Film cb) := conOK_of (om_l92Film hk hG) mixed Tryd.func63 (by kernel_rfl) (congrFun run_l92Film cb.tail) (fun ins K ht h => sat_l92Film Tryd.prog cb hk ins K ht h)

def sg_l92Between : Sig := { args := [.s (.e (.var 0))], pre := [], tin := [.sl], gin := [], res := .tu [.s (.e (.var 0)), .ag [.e (.var 1), .e (.var 2), .e (.var 3)], .ag [.e (.var 4), .e (.var 5), .e (.var 6)]], post := [], tout := [.sl, .int .i64, .int .i64, .int .i64, .int .i64, .int .i64, .int .i64, .row .i64 4], gout := [(0, 7, 4)] }
def cl_l92Between : List (Nat × Sig) := [(62, sg_openC), (63, sg_l92Film), (64, sg_l92Index)]
theorem run_l92Between : (fun H : List (Nat × List Sc) => run ⟨Tryd.prog, glb ++ H, cl_l92Between⟩ [] Tryd.f50 sg_l92Between (Tryd.f50.body.getD .skip)) = fun _ => tr_l92Between := by kernel_rfl
theorem om_l92Between {cb : CodeB} (hk : CodeOk cb) (hG : Known cb (glb ++ cb.tail)) : ΩOK ⟨Tryd.prog, glb ++ cb.tail, cl_l92Between⟩ (Ss_l92Between cb) := (ΩOK_consS (con_openC hk hG) Tryd.call62 (ΩOK_consS (con_l92Film hk hG) Tryd.call63 (ΩOK_consS (con_l92Index hk hG) Tryd.call64 ΩOK_nilS)))
theorem con_l92Between {cb : CodeB} (hk : CodeOk cb) (hG : Known cb (glb ++ cb.tail)) : ConOK Tryd.prog (glb ++ cb.tail) 50 sg_l92Between (SP_l92Between cb) := conOK_of (om_l92Between hk hG) mixed Tryd.func50 (by kernel_rfl) (congrFun run_l92Between cb.tail) (fun ins K ht h => sat_l92Between Tryd.prog cb hk ins K ht h)

def sg_realFilm : Sig := { args := [.s (.e (.var 0))], pre := [], tin := [.sl, .row .i64 4], gin := [(0, 1, 4)], res := .c (.s (.e (.var 0))), post := [], tout := [.bool], gout := [] }
def cl_realFilm : List (Nat × Sig) := []
theorem run_realFilm : run ⟨Tryd.prog, glb, cl_realFilm⟩ [(0, ⟨[(3, .int .i64)], [], none⟩)] Tryd.f23 sg_realFilm (Tryd.f23.body.getD .skip) = tr_realFilm := by kernel_rfl
theorem om_realFilm : ΩOK ⟨Tryd.prog, glb, cl_realFilm⟩ (specsOf Fs_realFilm) := ΩOK_nil
theorem con_realFilm : ConOK Tryd.prog glb 23 sg_realFilm F_realFilm.spec := conOK_of om_realFilm mixed Tryd.func23 (by kernel_rfl) run_realFilm (fun ins K ht h => sat_realFilm Tryd.prog ins K ht h.1 h.2)

def sg_iFracWide : Sig := { args := [.ag [.e (.var 0), .e (.var 1), .e (.var 2)]], pre := [], tin := [.int .i64, .int .i64, .int .i64], gin := [], res := .tu [.s (.e (.var 0)), .s (.e (.var 1))], post := [], tout := [.cpx .f64, .bool], gout := [] }
def cl_iFracWide : List (Nat × Sig) := [(57, sg_iFracValid)]
theorem run_iFracWide : run ⟨Tryd.prog, glb, cl_iFracWide⟩ [] Tryd.f28 sg_iFracWide (Tryd.f28.body.getD .skip) = tr_iFracWide := by kernel_rfl
theorem om_iFracWide : ΩOK ⟨Tryd.prog, glb, cl_iFracWide⟩ (specsOf Fs_iFracWide) := (ΩOK_cons cong_iFracValid Tryd.call57 ΩOK_nil)
theorem con_iFracWide : ConOK Tryd.prog glb 28 sg_iFracWide SP_iFracWide := conOK_of om_iFracWide mixed Tryd.func28 (by kernel_rfl) run_iFracWide (fun ins K ht h => sat_iFracWide Tryd.prog ins K ht h)

def sg_sFracWide : Sig := { args := [.ag [.e (.var 0), .e (.var 1), .e (.var 2)]], pre := [], tin := [.int .i64, .int .i64, .int .i64], gin := [], res := .tu [.s (.e (.var 0)), .s (.e (.var 1))], post := [], tout := [.cpx .f64, .bool], gout := [] }
def cl_sFracWide : List (Nat × Sig) := [(58, sg_sFracValid)]
theorem run_sFracWide : run ⟨Tryd.prog, glb, cl_sFracWide⟩ [] Tryd.f35 sg_sFracWide (Tryd.f35.body.getD .skip) = tr_sFracWide := by kernel_rfl
theorem om_sFracWide : ΩOK ⟨Tryd.prog, glb, cl_sFracWide⟩ (specsOf Fs_sFracWide) := (ΩOK_cons cong_sFracValid Tryd.call58 ΩOK_nil)
theorem con_sFracWide : ConOK Tryd.prog glb 35 sg_sFracWide SP_sFracWide := conOK_of om_sFracWide mixed Tryd.func35 (by kernel_rfl) run_sFracWide (fun ins K ht h => sat_sFracWide Tryd.prog ins K ht h)

def sg_iWideTimes : Sig := { args := [.s (.e (.var 0)), .s (.e (.var 1))], pre := [], tin := [.cpx .f64, .cpx .f64], gin := [], res := .c (.s (.e (.var 0))), post := [], tout := [.cpx .f64], gout := [] }
def cl_iWideTimes : List (Nat × Sig) := []
theorem run_iWideTimes : run ⟨Tryd.prog, glb, cl_iWideTimes⟩ [] Tryd.f41 sg_iWideTimes (Tryd.f41.body.getD .skip) = tr_iWideTimes := by kernel_rfl
theorem om_iWideTimes : ΩOK ⟨Tryd.prog, glb, cl_iWideTimes⟩ (specsOf Fs_iWideTimes) := ΩOK_nil
theorem con_iWideTimes : ConOK Tryd.prog glb 41 sg_iWideTimes SP_iWideTimes := conOK_of om_iWideTimes mixed Tryd.func41 (by kernel_rfl) run_iWideTimes (fun ins K ht h => sat_iWideTimes Tryd.prog ins K ht h)

def sg_sWideTimes : Sig := { args := [.s (.e (.var 0)), .s (.e (.var 1))], pre := [], tin := [.cpx .f64, .cpx .f64], gin := [], res := .c (.s (.e (.var 0))), post := [], tout := [.cpx .f64], gout := [] }
def cl_sWideTimes : List (Nat × Sig) := []
theorem run_sWideTimes : run ⟨Tryd.prog, glb, cl_sWideTimes⟩ [] Tryd.f37 sg_sWideTimes (Tryd.f37.body.getD .skip) = tr_sWideTimes := by kernel_rfl
theorem om_sWideTimes : ΩOK ⟨Tryd.prog, glb, cl_sWideTimes⟩ (specsOf Fs_sWideTimes) := ΩOK_nil
theorem con_sWideTimes : ConOK Tryd.prog glb 37 sg_sWideTimes SP_sWideTimes := conOK_of om_sWideTimes mixed Tryd.func37 (by kernel_rfl) run_sWideTimes (fun ins K ht h => sat_sWideTimes Tryd.prog ins K ht h)

def sg_iWideOver : Sig := { args := [.s (.e (.var 0)), .s (.e (.var 1))], pre := [], tin := [.cpx .f64, .cpx .f64], gin := [], res := .c (.s (.e (.var 0))), post := [], tout := [.cpx .f64], gout := [] }
def cl_iWideOver : List (Nat × Sig) := []
theorem run_iWideOver : run ⟨Tryd.prog, glb, cl_iWideOver⟩ [] Tryd.f40 sg_iWideOver (Tryd.f40.body.getD .skip) = tr_iWideOver := by kernel_rfl
theorem om_iWideOver : ΩOK ⟨Tryd.prog, glb, cl_iWideOver⟩ (specsOf Fs_iWideOver) := ΩOK_nil
theorem con_iWideOver : ConOK Tryd.prog glb 40 sg_iWideOver SP_iWideOver := conOK_of om_iWideOver mixed Tryd.func40 (by kernel_rfl) run_iWideOver (fun ins K ht h => sat_iWideOver Tryd.prog ins K ht h)

def sg_sWideOver : Sig := { args := [.s (.e (.var 0)), .s (.e (.var 1))], pre := [], tin := [.cpx .f64, .cpx .f64], gin := [], res := .c (.s (.e (.var 0))), post := [], tout := [.cpx .f64], gout := [] }
def cl_sWideOver : List (Nat × Sig) := []
theorem run_sWideOver : run ⟨Tryd.prog, glb, cl_sWideOver⟩ [] Tryd.f38 sg_sWideOver (Tryd.f38.body.getD .skip) = tr_sWideOver := by kernel_rfl
theorem om_sWideOver : ΩOK ⟨Tryd.prog, glb, cl_sWideOver⟩ (specsOf Fs_sWideOver) := ΩOK_nil
theorem con_sWideOver : ConOK Tryd.prog glb 38 sg_sWideOver SP_sWideOver := conOK_of om_sWideOver mixed Tryd.func38 (by kernel_rfl) run_sWideOver (fun ins K ht h => sat_sWideOver Tryd.prog ins K ht h)

def sg_l8Wide : Sig := { args := [.ag [.e (.var 0), .e (.var 1), .e (.var 2), .e (.var 3)], .s (.e (.var 4)), .s (.e (.var 5))], pre := [], tin := [.int .i64, .int .i64, .int .i64, .int .i64, .cpx .f64, .cpx .f64], gin := [], res := .tu [.s (.e (.var 0)), .s (.e (.var 1))], post := [], tout := [.cpx .f64, .cpx .f64], gout := [] }
def cl_l8Wide : List (Nat × Sig) := [(35, sg_sFracWide), (37, sg_sWideTimes), (38, sg_sWideOver)]
theorem run_l8Wide : run ⟨Tryd.prog, glb, cl_l8Wide⟩ [] Tryd.f36 sg_l8Wide (Tryd.f36.body.getD .skip) = tr_l8Wide := by kernel_rfl
theorem om_l8Wide : ΩOK ⟨Tryd.prog, glb, cl_l8Wide⟩ Ss_l8Wide := (ΩOK_consS con_sFracWide Tryd.call35 (ΩOK_consS con_sWideTimes Tryd.call37 (ΩOK_consS con_sWideOver Tryd.call38 ΩOK_nilS)))
theorem con_l8Wide : ConOK Tryd.prog glb 36 sg_l8Wide SP_l8Wide := conOK_of om_l8Wide mixed Tryd.func36 (by kernel_rfl) run_l8Wide (fun ins K ht h => sat_l8Wide Tryd.prog ins K ht h)

def sg_l8Given : Sig := { args := [.s (.e (.var 0)), .ag [.e (.var 1), .e (.var 2), .e (.var 3)], .ag [.e (.var 4), .e (.var 5), .e (.var 6)]], pre := [], tin := [.sl, .int .i64, .int .i64, .int .i64, .int .i64, .int .i64, .int .i64, .row .i64 4], gin := [(0, 7, 4)], res := .c (.s (.e (.var 0))), post := [], tout := [.bool], gout := [] }
def cl_l8Given : List (Nat × Sig) := [(29, sg_sFilmValid), (58, sg_sFracValid)]
theorem run_l8Given : run ⟨Tryd.prog, glb, cl_l8Given⟩ [] Tryd.f34 sg_l8Given (Tryd.f34.body.getD .skip) = tr_l8Given := by kernel_rfl
theorem om_l8Given : ΩOK ⟨Tryd.prog, glb, cl_l8Given⟩ (specsOf Fs_l8Given) := (ΩOK_cons con_sFilmValid Tryd.call29 (ΩOK_cons cong_sFracValid Tryd.call58 ΩOK_nil))
theorem con_l8Given : ConOK Tryd.prog glb 34 sg_l8Given F_l8Given.spec := conOK_tree om_l8Given mixed Tryd.func34 (by kernel_rfl) run_l8Given
theorem cong_l8Given : ConOK Tryd.prog glb 34 sg_l8Given G_l8Given.spec := (con_l8Given).as as_l8Given

def sg_iFilmWide : Sig := { args := [.s (.e (.var 0)), .ag [.e (.var 1), .e (.var 2), .e (.var 3)], .ag [.e (.var 4), .e (.var 5), .e (.var 6)]], pre := [], tin := [.sl, .int .i64, .int .i64, .int .i64, .int .i64, .int .i64, .int .i64, .row .i64 4], gin := [(0, 7, 4)], res := .tu [.s (.e (.var 0)), .s (.e (.var 1))], post := [], tout := [.cpx .f64, .bool], gout := [] }
def cl_iFilmWide : List (Nat × Sig) := [(31, sg_iFilmValid), (39, sg_indexOk), (28, sg_iFracWide), (32, sg_revL), (41, sg_iWideTimes), (40, sg_iWideOver)]
theorem run_iFilmWide : run ⟨Tryd.prog, glb, cl_iFilmWide⟩ [(0, ⟨[(39, .int .i64), (8, .cpx .f64), (9, .cpx .f64)], [], none⟩)] Tryd.f17 sg_iFilmWide (Tryd.f17.body.getD .skip) = tr_iFilmWide := by kernel_rfl
theorem om_iFilmWide : ΩOK ⟨Tryd.prog, glb, cl_iFilmWide⟩ Ss_iFilmWide := (ΩOK_consS con_iFilmValid Tryd.call31 (ΩOK_consS cong_indexOk Tryd.call39 (ΩOK_consS con_iFracWide Tryd.call28 (ΩOK_consS con_revL Tryd.call32 (ΩOK_consS con_iWideTimes Tryd.call41 (ΩOK_consS con_iWideOver Tryd.call40 ΩOK_nilS))))))
theorem con_iFilmWide : ConOK Tryd.prog glb 17 sg_iFilmWide SP_iFilmWide := conOK_of om_iFilmWide mixed Tryd.func17 (by kernel_rfl) run_iFilmWide (fun ins K ht h => sat_iFilmWide Tryd.prog ins K ht h)

def sg_sFilmWide : Sig := { args := [.s (.e (.var 0)), .ag [.e (.var 1), .e (.var 2), .e (.var 3)], .ag [.e (.var 4), .e (.var 5), .e (.var 6)]], pre := [], tin := [.sl, .int .i64, .int .i64, .int .i64, .int .i64, .int .i64, .int .i64, .row .i64 4], gin := [(0, 7, 4)], res := .tu [.s (.e (.var 0)), .s (.e (.var 1))], post := [], tout := [.cpx .f64, .bool], gout := [] }
def cl_sFilmWide : List (Nat × Sig) := [(34, sg_l8Given), (35, sg_sFracWide), (36, sg_l8Wide), (37, sg_sWideTimes), (38, sg_sWideOver)]
theorem run_sFilmWide : run ⟨Tryd.prog, glb, cl_sFilmWide⟩ [(0, ⟨[(11, .int .i64), (8, .cpx .f64), (9, .cpx .f64)], [], none⟩)] Tryd.f15 sg_sFilmWide (Tryd.f15.body.getD .skip) = tr_sFilmWide := by kernel_rfl
theorem om_sFilmWide : ΩOK ⟨Tryd.prog, glb, cl_sFilmWide⟩ Ss_sFilmWide := (ΩOK_consS cong_l8Given Tryd.call34 (ΩOK_consS con_sFracWide Tryd.call35 (ΩOK_consS con_l8Wide Tryd.call36 (ΩOK_consS con_sWideTimes Tryd.call37 (ΩOK_consS con_sWideOver Tryd.call38 ΩOK_nilS)))))
theorem con_sFilmWide : ConOK Tryd.prog glb 15 sg_sFilmWide SP_sFilmWide := conOK_of om_sFilmWide mixed Tryd.func15 (by kernel_rfl) run_sFilmWide (fun ins K ht h => sat_sFilmWide Tryd.prog ins K ht h)

def sg_DrawFilmWide : Sig := { args := [.s (.e (.var 0))], pre := [], tin := [.sl], gin := [], res := .tu [.s (.e (.var 0)), .ag [.e (.var 1), .e (.var 2), .e (.var 3)], .ag [.e (.var 4), .e (.var 5), .e (.var 6)]], post := [], tout := [.sl, .int .i64, .int .i64, .int .i64, .int .i64, .int .i64, .int .i64, .row .i64 4], gout := [(0, 7, 4)] }
def cl_DrawFilmWide : List (Nat × Sig) := [(50, sg_l92Between)]
theorem run_DrawFilmWide : (fun H : List (Nat × List Sc) => run ⟨Tryd.prog, glb ++ H, cl_DrawFilmWide⟩ [] Tryd.f25 sg_DrawFilmWide (Tryd.f25.body.getD .skip)) = fun _ => tr_DrawFilmWide := by kernel_rfl
theorem om_DrawFilmWide {cb : CodeB} (hk : CodeOk cb) (hG : Known cb (glb ++ cb.tail)) : ΩOK ⟨Tryd.prog, glb ++ cb.tail, cl_DrawFilmWide⟩ (Ss_DrawFilmWide cb) := (ΩOK_consS (con_l92Between hk hG) Tryd.call50 ΩOK_nilS)
theorem con_DrawFilmWide {cb : CodeB} (hk : CodeOk cb) (hG : Known cb (glb ++ cb.tail)) : ConOK Tryd.prog (glb ++ cb.tail) 25 sg_DrawFilmWide (SP_DrawFilmWide cb) := conOK_of (om_DrawFilmWide hk hG) mixed Tryd.func25 (by kernel_rfl) (congrFun run_DrawFilmWide cb.tail) (fun ins K ht h => sat_DrawFilmWide Tryd.prog cb hk ins K ht h)

def sg_zeroAlike : Sig := { args := [.s (.e (.var 0)), .s (.e (.var 1))], pre := [], tin := [.flt .f64, .flt .f64], gin := [], res := .c (.s (.e (.var 0))), post := [], tout := [.bool], gout := [] }
def cl_zeroAlike : List (Nat × Sig) := []
theorem run_zeroAlike : run ⟨Tryd.prog, glb, cl_zeroAlike⟩ [] Tryd.f51 sg_zeroAlike (Tryd.f51.body.getD .skip) = tr_zeroAlike := by kernel_rfl
theorem om_zeroAlike : ΩOK ⟨Tryd.prog, glb, cl_zeroAlike⟩ (specsOf Fs_zeroAlike) := ΩOK_nil
theorem con_zeroAlike : ConOK Tryd.prog glb 51 sg_zeroAlike SP_zeroAlike := conOK_of om_zeroAlike mixed Tryd.func51 (by kernel_rfl) run_zeroAlike (fun ins K ht h => sat_zeroAlike Tryd.prog ins K ht h)

def sg_wideAlike : Sig := { args := [.s (.e (.var 0)), .s (.e (.var 1))], pre := [], tin := [.cpx .f64, .cpx .f64], gin := [], res := .c (.s (.e (.var 0))), post := [], tout := [.bool], gout := [] }
def cl_wideAlike : List (Nat × Sig) := [(51, sg_zeroAlike)]
theorem run_wideAlike : run ⟨Tryd.prog, glb, cl_wideAlike⟩ [] Tryd.f26 sg_wideAlike (Tryd.f26.body.getD .skip) = tr_wideAlike := by kernel_rfl
theorem om_wideAlike : ΩOK ⟨Tryd.prog, glb, cl_wideAlike⟩ Ss_wideAlike := (ΩOK_consS con_zeroAlike Tryd.call51 ΩOK_nilS)
theorem con_wideAlike : ConOK Tryd.prog glb 26 sg_wideAlike SP_wideAlike := conOK_of om_wideAlike mixed Tryd.func26 (by kernel_rfl) run_wideAlike (fun ins K ht h => sat_wideAlike Tryd.prog ins K ht h)

def sg_withinF : Sig := { args := [.s (.e (.var 0)), .s (.e (.var 1)), .s (.e (.var 2))], pre := [], tin := [.flt .f64, .flt .f64, .flt .f64], gin := [], res := .c (.s (.e (.var 0))), post := [], tout := [.bool], gout := [] }
def cl_withinF : List (Nat × Sig) := []
theorem run_withinF : run ⟨Tryd.prog, glb, cl_withinF⟩ [] Tryd.f24 sg_withinF (Tryd.f24.body.getD .skip) = tr_withinF := by kernel_rfl
theorem om_withinF : ΩOK ⟨Tryd.prog, glb, cl_withinF⟩ (specsOf Fs_withinF) := ΩOK_nil
theorem con_withinF : ConOK Tryd.prog glb 24 sg_withinF SP_withinF := conOK_of om_withinF mixed Tryd.func24 (by kernel_rfl) run_withinF (fun ins K ht h => sat_withinF Tryd.prog ins K ht h)

def sg_FnFilmWide : Sig := { args := [.s (.e (.var 0))], pre := [], tin := [.sl], gin := [], res := .c (.s (.e (.var 0))), post := [], tout := [.bool], gout := [] }
def cl_FnFilmWide : List (Nat × Sig) := [(25, sg_DrawFilmWide), (17, sg_iFilmWide), (15, sg_sFilmWide), (26, sg_wideAlike), (27, sg_iFilmReflected), (28, sg_iFracWide), (23, sg_realFilm), (24, sg_withinF)]
theorem run_FnFilmWide : (fun H : List (Nat × List Sc) => run ⟨Tryd.prog, glb ++ H, cl_FnFilmWide⟩ [(0, ⟨[(15, .int .i64), (14, .bool)], [], none⟩)] Tryd.f7 sg_FnFilmWide (Tryd.f7.body.getD .skip)) = fun _ => tr_FnFilmWide := by kernel_rfl
theorem om_FnFilmWide {cb : CodeB} (hk : CodeOk cb) (hG : Known cb (glb ++ cb.tail)) : ΩOK ⟨Tryd.prog, glb ++ cb.tail, cl_FnFilmWide⟩ (Ss_FnFilmWide cb) := (ΩOK_consS (con_DrawFilmWide hk hG).tys Tryd.call25 (ΩOK_consS con_iFilmWide.more Tryd.call17 (ΩOK_consS con_sFilmWide.more Tryd.call15 (ΩOK_consS con_wideAlike.more Tryd.call26 (ΩOK_consS cong_iFilmReflected.more Tryd.call27 (ΩOK_consS con_iFracWide.more Tryd.call28 (ΩOK_consS con_realFilm.more Tryd.call23 (ΩOK_consS con_withinF.more Tryd.call24 ΩOK_nilS))))))))
theorem con_FnFilmWide {cb : CodeB} (hk : CodeOk cb) (hG : Known cb (glb ++ cb.tail)) : ConOK Tryd.prog (glb ++ cb.tail) 7 sg_FnFilmWide (lawF cb).spec := conOK_of (om_FnFilmWide hk hG) mixed Tryd.func7 (by kernel_rfl) (congrFun run_FnFilmWide cb.tail) (fun ins K ht h => sat_FnFilmWide Tryd.prog cb hk ins K ht h.1 h.2)

end Go.Proofs.YtebldmiopbfmgaaDoor

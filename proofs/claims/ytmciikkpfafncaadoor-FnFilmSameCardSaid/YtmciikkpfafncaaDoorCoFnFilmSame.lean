/- The contracts of the functions. -/
import Derived.Test.YtmciikkpfafncaaDoorChecked
import Derived.Test.YtmciikkpfafncaaDoorRkAFnFilmSame
import Derived.WalkKit
import Derived.Laws.OwnMore
import Derived.Deep.MidRow
namespace Go.Proofs.YtmciikkpfafncaaDoor
open Go Go.Sx Go.RowKit
set_option maxRecDepth 100000

def glb : List (Nat × List Sc) := [(1, [.e (.int .i64 (0)), .e (.int .i64 (0)), .e (.int .i64 (1))]), (2, [.e (.int .i64 (1)), .e (.int .i64 (0)), .e (.int .i64 (1))]), (3, [.e (.int .i64 (0)), .e (.int .i64 (1)), .e (.int .i64 (1))]), (0, [.e (.int .i64 (1)), .e (.int .i64 (0)), .e (.int .i64 (1)), .e (.int .i64 (0)), .e (.int .i64 (0)), .e (.int .i64 (1)), .e (.int .i64 (0)), .e (.int .i64 (0)), .e (.int .i64 (1)), .e (.int .i64 (1)), .e (.int .i64 (0)), .e (.int .i64 (1))])]
theorem mixed : Tryd.prog.follows .mixedOrders = true := by kernel_rfl

def sg_size : Sig := { args := [.s (.e (.var 0))], pre := [], tin := [.int .i64], gin := [], res := .c (.s (.e (.var 0))), post := [], tout := [.int .i64], gout := [] }
def cl_size : List (Nat × Sig) := []
theorem run_size : run ⟨Tryd.prog, glb, cl_size⟩ [] Tryd.f86 sg_size (Tryd.f86.body.getD .skip) = tr_size := by kernel_rfl
theorem om_size : ΩOK ⟨Tryd.prog, glb, cl_size⟩ (specsOf Fs_size) := ΩOK_nil
theorem con_size : ConOK Tryd.prog glb 86 sg_size F_size.spec := conOK_tree om_size mixed Tryd.func86 (by kernel_rfl) run_size

def sg_within : Sig := { args := [.s (.e (.var 0)), .s (.e (.var 1)), .s (.e (.var 2))], pre := [], tin := [.int .i64, .int .i64, .int .i64], gin := [], res := .c (.s (.e (.var 0))), post := [], tout := [.bool], gout := [] }
def cl_within : List (Nat × Sig) := []
theorem run_within : run ⟨Tryd.prog, glb, cl_within⟩ [] Tryd.f84 sg_within (Tryd.f84.body.getD .skip) = tr_within := by kernel_rfl
theorem om_within : ΩOK ⟨Tryd.prog, glb, cl_within⟩ (specsOf Fs_within) := ΩOK_nil
theorem con_within : ConOK Tryd.prog glb 84 sg_within F_within.spec := conOK_tree om_within mixed Tryd.func84 (by kernel_rfl) run_within
theorem cong_within : ConOK Tryd.prog glb 84 sg_within G_within.spec := con_within.as as_within

def sg_l6In : Sig := { args := [.s (.e (.var 0)), .s (.e (.var 1)), .s (.e (.var 2))], pre := [], tin := [.int .i64, .int .i64, .int .i64], gin := [], res := .c (.s (.e (.var 0))), post := [], tout := [.bool], gout := [] }
def cl_l6In : List (Nat × Sig) := []
theorem run_l6In : run ⟨Tryd.prog, glb, cl_l6In⟩ [] Tryd.f91 sg_l6In (Tryd.f91.body.getD .skip) = tr_l6In := by kernel_rfl
theorem om_l6In : ΩOK ⟨Tryd.prog, glb, cl_l6In⟩ (specsOf Fs_l6In) := ΩOK_nil
theorem con_l6In : ConOK Tryd.prog glb 91 sg_l6In F_l6In.spec := conOK_tree om_l6In mixed Tryd.func91 (by kernel_rfl) run_l6In
theorem cong_l6In : ConOK Tryd.prog glb 91 sg_l6In G_l6In.spec := con_l6In.as as_l6In

def sg_l2In : Sig := { args := [.s (.e (.var 0))], pre := [], tin := [.int .i64], gin := [], res := .c (.s (.e (.var 0))), post := [], tout := [.bool], gout := [] }
def cl_l2In : List (Nat × Sig) := [(91, sg_l6In)]
theorem run_l2In : run ⟨Tryd.prog, glb, cl_l2In⟩ [] Tryd.f97 sg_l2In (Tryd.f97.body.getD .skip) = tr_l2In := by kernel_rfl
theorem om_l2In : ΩOK ⟨Tryd.prog, glb, cl_l2In⟩ (specsOf Fs_l2In) := (ΩOK_cons cong_l6In Tryd.call91 ΩOK_nil)
theorem con_l2In : ConOK Tryd.prog glb 97 sg_l2In F_l2In.spec := conOK_tree om_l2In mixed Tryd.func97 (by kernel_rfl) run_l2In
theorem cong_l2In : ConOK Tryd.prog glb 97 sg_l2In G_l2In.spec := con_l2In.as as_l2In

def sg_divisor : Sig := { args := [.s (.e (.var 0)), .s (.e (.var 1))], pre := [], tin := [.int .i64, .int .i64], gin := [], res := .c (.s (.e (.var 0))), post := [], tout := [.int .i64], gout := [] }
def cl_divisor : List (Nat × Sig) := []
theorem run_divisor : run ⟨Tryd.prog, glb, cl_divisor⟩ [(0, ⟨[(0, .int .i64), (1, .int .i64)], [], none⟩)] Tryd.f85 sg_divisor (Tryd.f85.body.getD .skip) = tr_divisor := by kernel_rfl
theorem om_divisor : ΩOK ⟨Tryd.prog, glb, cl_divisor⟩ (specsOf Fs_divisor) := ΩOK_nil
theorem con_divisor : ConOK Tryd.prog glb 85 sg_divisor F_divisor.spec := conOK_of om_divisor mixed Tryd.func85 (by kernel_rfl) run_divisor (fun ins K ht h => sat_divisor Tryd.prog ins K ht h.1 h.2)

def sg_l2Gcd : Sig := { args := [.s (.e (.var 0)), .s (.e (.var 1))], pre := [], tin := [.int .i64, .int .i64], gin := [], res := .c (.s (.e (.var 0))), post := [], tout := [.int .i64], gout := [] }
def cl_l2Gcd : List (Nat × Sig) := []
theorem run_l2Gcd : run ⟨Tryd.prog, glb, cl_l2Gcd⟩ [(0, ⟨[(0, .int .i64), (1, .int .i64)], [], none⟩)] Tryd.f98 sg_l2Gcd (Tryd.f98.body.getD .skip) = tr_l2Gcd := by kernel_rfl
theorem om_l2Gcd : ΩOK ⟨Tryd.prog, glb, cl_l2Gcd⟩ (specsOf Fs_l2Gcd) := ΩOK_nil
theorem con_l2Gcd : ConOK Tryd.prog glb 98 sg_l2Gcd F_l2Gcd.spec := conOK_of om_l2Gcd mixed Tryd.func98 (by kernel_rfl) run_l2Gcd (fun ins K ht h => sat_l2Gcd Tryd.prog ins K ht h.1 h.2)

def sg_lowest : Sig := { args := [.s (.e (.var 0)), .s (.e (.var 1)), .s (.e (.var 2))], pre := [], tin := [.int .i64, .int .i64, .int .i64], gin := [], res := .tu [.ag [.e (.var 0), .e (.var 1), .e (.var 2)], .s (.e (.var 3))], post := [], tout := [.int .i64, .int .i64, .int .i64, .bool], gout := [] }
def cl_lowest : List (Nat × Sig) := [(86, sg_size), (85, sg_divisor), (84, sg_within)]
theorem run_lowest : run ⟨Tryd.prog, glb, cl_lowest⟩ [] Tryd.f53 sg_lowest (Tryd.f53.body.getD .skip) = tr_lowest := by kernel_rfl
theorem om_lowest : ΩOK ⟨Tryd.prog, glb, cl_lowest⟩ (specsOf Fs_lowest) := (ΩOK_cons con_size Tryd.call86 (ΩOK_cons con_divisor Tryd.call85 (ΩOK_cons cong_within Tryd.call84 ΩOK_nil)))
theorem con_lowest : ConOK Tryd.prog glb 53 sg_lowest F_lowest.spec := conOK_tree om_lowest mixed Tryd.func53 (by kernel_rfl) run_lowest
theorem cong_lowest : ConOK Tryd.prog glb 53 sg_lowest G_lowest.spec := con_lowest.as as_lowest

def sg_sFracValid : Sig := { args := [.ag [.e (.var 0), .e (.var 1), .e (.var 2)]], pre := [], tin := [.int .i64, .int .i64, .int .i64], gin := [], res := .c (.s (.e (.var 0))), post := [], tout := [.bool], gout := [] }
def cl_sFracValid : List (Nat × Sig) := [(97, sg_l2In), (91, sg_l6In), (98, sg_l2Gcd)]
theorem run_sFracValid : run ⟨Tryd.prog, glb, cl_sFracValid⟩ [] Tryd.f73 sg_sFracValid (Tryd.f73.body.getD .skip) = tr_sFracValid := by kernel_rfl
theorem om_sFracValid : ΩOK ⟨Tryd.prog, glb, cl_sFracValid⟩ (specsOf Fs_sFracValid) := (ΩOK_cons cong_l2In Tryd.call97 (ΩOK_cons cong_l6In Tryd.call91 (ΩOK_cons con_l2Gcd Tryd.call98 ΩOK_nil)))
theorem con_sFracValid : ConOK Tryd.prog glb 73 sg_sFracValid F_sFracValid.spec := conOK_tree om_sFracValid mixed Tryd.func73 (by kernel_rfl) run_sFracValid
theorem cong_sFracValid : ConOK Tryd.prog glb 73 sg_sFracValid G_sFracValid.spec := con_sFracValid.as as_sFracValid

def sg_l2Low : Sig := { args := [.s (.e (.var 0)), .s (.e (.var 1)), .s (.e (.var 2))], pre := [], tin := [.int .i64, .int .i64, .int .i64], gin := [], res := .tu [.ag [.e (.var 0), .e (.var 1), .e (.var 2)], .s (.e (.var 3))], post := [], tout := [.int .i64, .int .i64, .int .i64, .bool], gout := [] }
def cl_l2Low : List (Nat × Sig) := [(98, sg_l2Gcd), (73, sg_sFracValid)]
theorem run_l2Low : run ⟨Tryd.prog, glb, cl_l2Low⟩ [] Tryd.f89 sg_l2Low (Tryd.f89.body.getD .skip) = tr_l2Low := by kernel_rfl
theorem om_l2Low : ΩOK ⟨Tryd.prog, glb, cl_l2Low⟩ (specsOf Fs_l2Low) := (ΩOK_cons con_l2Gcd Tryd.call98 (ΩOK_cons cong_sFracValid Tryd.call73 ΩOK_nil))
theorem con_l2Low : ConOK Tryd.prog glb 89 sg_l2Low F_l2Low.spec := conOK_tree om_l2Low mixed Tryd.func89 (by kernel_rfl) run_l2Low
theorem cong_l2Low : ConOK Tryd.prog glb 89 sg_l2Low G_l2Low.spec := con_l2Low.as as_l2Low

def sg_iFracValid : Sig := { args := [.ag [.e (.var 0), .e (.var 1), .e (.var 2)]], pre := [], tin := [.int .i64, .int .i64, .int .i64], gin := [], res := .c (.s (.e (.var 0))), post := [], tout := [.bool], gout := [] }
def cl_iFracValid : List (Nat × Sig) := [(84, sg_within), (85, sg_divisor), (86, sg_size)]
theorem run_iFracValid : run ⟨Tryd.prog, glb, cl_iFracValid⟩ [] Tryd.f52 sg_iFracValid (Tryd.f52.body.getD .skip) = tr_iFracValid := by kernel_rfl
theorem om_iFracValid : ΩOK ⟨Tryd.prog, glb, cl_iFracValid⟩ (specsOf Fs_iFracValid) := (ΩOK_cons cong_within Tryd.call84 (ΩOK_cons con_divisor Tryd.call85 (ΩOK_cons con_size Tryd.call86 ΩOK_nil)))
theorem con_iFracValid : ConOK Tryd.prog glb 52 sg_iFracValid F_iFracValid.spec := conOK_tree om_iFracValid mixed Tryd.func52 (by kernel_rfl) run_iFracValid
theorem cong_iFracValid : ConOK Tryd.prog glb 52 sg_iFracValid G_iFracValid.spec := con_iFracValid.as as_iFracValid

def sg_iFracAdd : Sig := { args := [.ag [.e (.var 0), .e (.var 1), .e (.var 2)], .ag [.e (.var 3), .e (.var 4), .e (.var 5)]], pre := [], tin := [.int .i64, .int .i64, .int .i64, .int .i64, .int .i64, .int .i64], gin := [], res := .tu [.ag [.e (.var 0), .e (.var 1), .e (.var 2)], .s (.e (.var 3))], post := [], tout := [.int .i64, .int .i64, .int .i64, .bool], gout := [] }
def cl_iFracAdd : List (Nat × Sig) := [(52, sg_iFracValid), (53, sg_lowest)]
theorem run_iFracAdd : run ⟨Tryd.prog, glb, cl_iFracAdd⟩ [] Tryd.f30 sg_iFracAdd (Tryd.f30.body.getD .skip) = tr_iFracAdd := by kernel_rfl
theorem om_iFracAdd : ΩOK ⟨Tryd.prog, glb, cl_iFracAdd⟩ (specsOf Fs_iFracAdd) := (ΩOK_cons cong_iFracValid Tryd.call52 (ΩOK_cons cong_lowest Tryd.call53 ΩOK_nil))
theorem con_iFracAdd : ConOK Tryd.prog glb 30 sg_iFracAdd F_iFracAdd.spec := conOK_tree om_iFracAdd mixed Tryd.func30 (by kernel_rfl) run_iFracAdd
theorem cong_iFracAdd : ConOK Tryd.prog glb 30 sg_iFracAdd G_iFracAdd.spec := con_iFracAdd.as as_iFracAdd

def sg_iFracTimes : Sig := { args := [.ag [.e (.var 0), .e (.var 1), .e (.var 2)], .ag [.e (.var 3), .e (.var 4), .e (.var 5)]], pre := [], tin := [.int .i64, .int .i64, .int .i64, .int .i64, .int .i64, .int .i64], gin := [], res := .tu [.ag [.e (.var 0), .e (.var 1), .e (.var 2)], .s (.e (.var 3))], post := [], tout := [.int .i64, .int .i64, .int .i64, .bool], gout := [] }
def cl_iFracTimes : List (Nat × Sig) := [(52, sg_iFracValid), (53, sg_lowest)]
theorem run_iFracTimes : run ⟨Tryd.prog, glb, cl_iFracTimes⟩ [] Tryd.f25 sg_iFracTimes (Tryd.f25.body.getD .skip) = tr_iFracTimes := by kernel_rfl
theorem om_iFracTimes : ΩOK ⟨Tryd.prog, glb, cl_iFracTimes⟩ (specsOf Fs_iFracTimes) := (ΩOK_cons cong_iFracValid Tryd.call52 (ΩOK_cons cong_lowest Tryd.call53 ΩOK_nil))
theorem con_iFracTimes : ConOK Tryd.prog glb 25 sg_iFracTimes F_iFracTimes.spec := conOK_tree om_iFracTimes mixed Tryd.func25 (by kernel_rfl) run_iFracTimes
theorem cong_iFracTimes : ConOK Tryd.prog glb 25 sg_iFracTimes G_iFracTimes.spec := con_iFracTimes.as as_iFracTimes

def sg_l2Sum : Sig := { args := [.ag [.e (.var 0), .e (.var 1), .e (.var 2)], .s (.e (.var 3)), .ag [.e (.var 4), .e (.var 5), .e (.var 6)]], pre := [], tin := [.int .i64, .int .i64, .int .i64, .int .i64, .int .i64, .int .i64, .int .i64], gin := [], res := .tu [.ag [.e (.var 0), .e (.var 1), .e (.var 2)], .s (.e (.var 3))], post := [], tout := [.int .i64, .int .i64, .int .i64, .bool], gout := [] }
def cl_l2Sum : List (Nat × Sig) := [(73, sg_sFracValid), (89, sg_l2Low)]
theorem run_l2Sum : run ⟨Tryd.prog, glb, cl_l2Sum⟩ [] Tryd.f75 sg_l2Sum (Tryd.f75.body.getD .skip) = tr_l2Sum := by kernel_rfl
theorem om_l2Sum : ΩOK ⟨Tryd.prog, glb, cl_l2Sum⟩ (specsOf Fs_l2Sum) := (ΩOK_cons cong_sFracValid Tryd.call73 (ΩOK_cons cong_l2Low Tryd.call89 ΩOK_nil))
theorem con_l2Sum : ConOK Tryd.prog glb 75 sg_l2Sum F_l2Sum.spec := conOK_tree om_l2Sum mixed Tryd.func75 (by kernel_rfl) run_l2Sum
theorem cong_l2Sum : ConOK Tryd.prog glb 75 sg_l2Sum G_l2Sum.spec := con_l2Sum.as as_l2Sum

def sg_sFracAdd : Sig := { args := [.ag [.e (.var 0), .e (.var 1), .e (.var 2)], .ag [.e (.var 3), .e (.var 4), .e (.var 5)]], pre := [], tin := [.int .i64, .int .i64, .int .i64, .int .i64, .int .i64, .int .i64], gin := [], res := .tu [.ag [.e (.var 0), .e (.var 1), .e (.var 2)], .s (.e (.var 3))], post := [], tout := [.int .i64, .int .i64, .int .i64, .bool], gout := [] }
def cl_sFracAdd : List (Nat × Sig) := [(75, sg_l2Sum)]
theorem run_sFracAdd : run ⟨Tryd.prog, glb, cl_sFracAdd⟩ [] Tryd.f39 sg_sFracAdd (Tryd.f39.body.getD .skip) = tr_sFracAdd := by kernel_rfl
theorem om_sFracAdd : ΩOK ⟨Tryd.prog, glb, cl_sFracAdd⟩ (specsOf Fs_sFracAdd) := (ΩOK_cons cong_l2Sum Tryd.call75 ΩOK_nil)
theorem con_sFracAdd : ConOK Tryd.prog glb 39 sg_sFracAdd F_sFracAdd.spec := conOK_tree om_sFracAdd mixed Tryd.func39 (by kernel_rfl) run_sFracAdd
theorem cong_sFracAdd : ConOK Tryd.prog glb 39 sg_sFracAdd G_sFracAdd.spec := con_sFracAdd.as as_sFracAdd

def sg_sFracTimes : Sig := { args := [.ag [.e (.var 0), .e (.var 1), .e (.var 2)], .ag [.e (.var 3), .e (.var 4), .e (.var 5)]], pre := [], tin := [.int .i64, .int .i64, .int .i64, .int .i64, .int .i64, .int .i64], gin := [], res := .tu [.ag [.e (.var 0), .e (.var 1), .e (.var 2)], .s (.e (.var 3))], post := [], tout := [.int .i64, .int .i64, .int .i64, .bool], gout := [] }
def cl_sFracTimes : List (Nat × Sig) := [(73, sg_sFracValid), (89, sg_l2Low)]
theorem run_sFracTimes : run ⟨Tryd.prog, glb, cl_sFracTimes⟩ [] Tryd.f59 sg_sFracTimes (Tryd.f59.body.getD .skip) = tr_sFracTimes := by kernel_rfl
theorem om_sFracTimes : ΩOK ⟨Tryd.prog, glb, cl_sFracTimes⟩ (specsOf Fs_sFracTimes) := (ΩOK_cons cong_sFracValid Tryd.call73 (ΩOK_cons cong_l2Low Tryd.call89 ΩOK_nil))
theorem con_sFracTimes : ConOK Tryd.prog glb 59 sg_sFracTimes F_sFracTimes.spec := conOK_tree om_sFracTimes mixed Tryd.func59 (by kernel_rfl) run_sFracTimes
theorem cong_sFracTimes : ConOK Tryd.prog glb 59 sg_sFracTimes G_sFracTimes.spec := con_sFracTimes.as as_sFracTimes

def sg_keep : Sig := { args := [.s (.p (.own 0) 0), .ag [.e (.var 0), .e (.var 1), .e (.var 2)], .s (.e (.var 3))], pre := [⟨[.e (.var 4)], 64⟩], tin := [.int .i64, .int .i64, .int .i64, .bool, .bool], gin := [], res := .c (.ag [.e (.var 0), .e (.var 1), .e (.var 2)]), post := [⟨[.e (.var 3)], 64⟩], tout := [.int .i64, .int .i64, .int .i64, .bool], gout := [] }
def cl_keep : List (Nat × Sig) := []
theorem run_keep : run ⟨Tryd.prog, glb, cl_keep⟩ [] Tryd.f80 sg_keep (Tryd.f80.body.getD .skip) = tr_keep := by kernel_rfl
theorem om_keep : ΩOK ⟨Tryd.prog, glb, cl_keep⟩ (specsOf Fs_keep) := ΩOK_nil
theorem con_keep : ConOK Tryd.prog glb 80 sg_keep F_keep.spec := conOK_tree om_keep mixed Tryd.func80 (by kernel_rfl) run_keep

def sg_add : Sig := { args := [.s (.p (.own 0) 0), .ag [.e (.var 0), .e (.var 1), .e (.var 2)], .ag [.e (.var 3), .e (.var 4), .e (.var 5)]], pre := [⟨[.e (.var 6)], 64⟩], tin := [.int .i64, .int .i64, .int .i64, .int .i64, .int .i64, .int .i64, .bool], gin := [], res := .c (.ag [.e (.var 0), .e (.var 1), .e (.var 2)]), post := [⟨[.e (.var 3)], 64⟩], tout := [.int .i64, .int .i64, .int .i64, .bool], gout := [] }
def cl_add : List (Nat × Sig) := [(30, sg_iFracAdd), (80, sg_keep)]
theorem run_add : run ⟨Tryd.prog, glb, cl_add⟩ [] Tryd.f79 sg_add (Tryd.f79.body.getD .skip) = tr_add := by kernel_rfl
theorem om_add : ΩOK ⟨Tryd.prog, glb, cl_add⟩ (specsOf Fs_add) := (ΩOK_cons cong_iFracAdd Tryd.call30 (ΩOK_cons con_keep Tryd.call80 ΩOK_nil))
theorem con_add : ConOK Tryd.prog glb 79 sg_add F_add.spec := conOK_tree om_add mixed Tryd.func79 (by kernel_rfl) run_add
theorem cong_add : ConOK Tryd.prog glb 79 sg_add G_add.spec := con_add.as as_add

def sg_times : Sig := { args := [.s (.p (.own 0) 0), .ag [.e (.var 0), .e (.var 1), .e (.var 2)], .ag [.e (.var 3), .e (.var 4), .e (.var 5)]], pre := [⟨[.e (.var 6)], 64⟩], tin := [.int .i64, .int .i64, .int .i64, .int .i64, .int .i64, .int .i64, .bool], gin := [], res := .c (.ag [.e (.var 0), .e (.var 1), .e (.var 2)]), post := [⟨[.e (.var 3)], 64⟩], tout := [.int .i64, .int .i64, .int .i64, .bool], gout := [] }
def cl_times : List (Nat × Sig) := [(25, sg_iFracTimes), (80, sg_keep)]
theorem run_times : run ⟨Tryd.prog, glb, cl_times⟩ [] Tryd.f45 sg_times (Tryd.f45.body.getD .skip) = tr_times := by kernel_rfl
theorem om_times : ΩOK ⟨Tryd.prog, glb, cl_times⟩ (specsOf Fs_times) := (ΩOK_cons cong_iFracTimes Tryd.call25 (ΩOK_cons con_keep Tryd.call80 ΩOK_nil))
theorem con_times : ConOK Tryd.prog glb 45 sg_times F_times.spec := conOK_tree om_times mixed Tryd.func45 (by kernel_rfl) run_times
theorem cong_times : ConOK Tryd.prog glb 45 sg_times G_times.spec := con_times.as as_times

def sg_need : Sig := { args := [.s (.p (.own 0) 0), .s (.e (.var 0))], pre := [⟨[.e (.var 1)], 64⟩], tin := [.bool, .bool], gin := [], res := .c (.s (.p (.own 0) 0)), post := [⟨[.e (.var 0)], 64⟩], tout := [.bool], gout := [] }
def cl_need : List (Nat × Sig) := []
theorem run_need : run ⟨Tryd.prog, glb, cl_need⟩ [] Tryd.f42 sg_need (Tryd.f42.body.getD .skip) = tr_need := by kernel_rfl
theorem om_need : ΩOK ⟨Tryd.prog, glb, cl_need⟩ (specsOf Fs_need) := ΩOK_nil
theorem con_need : ConOK Tryd.prog glb 42 sg_need F_need.spec := conOK_tree om_need mixed Tryd.func42 (by kernel_rfl) run_need
theorem cong_need : ConOK Tryd.prog glb 42 sg_need G_need.spec := con_need.as as_need

def sg_l3Inner : Sig := { args := [.ag [.e (.var 0), .e (.var 1), .e (.var 2)], .ag [.e (.var 3), .e (.var 4), .e (.var 5)], .ag [.e (.var 6), .e (.var 7), .e (.var 8)], .ag [.e (.var 9), .e (.var 10), .e (.var 11)]], pre := [], tin := [.int .i64, .int .i64, .int .i64, .int .i64, .int .i64, .int .i64, .int .i64, .int .i64, .int .i64, .int .i64, .int .i64, .int .i64], gin := [], res := .tu [.ag [.e (.var 0), .e (.var 1), .e (.var 2)], .s (.e (.var 3))], post := [], tout := [.int .i64, .int .i64, .int .i64, .bool], gout := [] }
def cl_l3Inner : List (Nat × Sig) := [(59, sg_sFracTimes), (39, sg_sFracAdd)]
theorem run_l3Inner : run ⟨Tryd.prog, glb, cl_l3Inner⟩ [] Tryd.f93 sg_l3Inner (Tryd.f93.body.getD .skip) = tr_l3Inner := by kernel_rfl
theorem om_l3Inner : ΩOK ⟨Tryd.prog, glb, cl_l3Inner⟩ (specsOf Fs_l3Inner) := (ΩOK_cons cong_sFracTimes Tryd.call59 (ΩOK_cons cong_sFracAdd Tryd.call39 ΩOK_nil))
theorem con_l3Inner : ConOK Tryd.prog glb 93 sg_l3Inner F_l3Inner.spec := conOK_tree om_l3Inner mixed Tryd.func93 (by kernel_rfl) run_l3Inner
theorem cong_l3Inner : ConOK Tryd.prog glb 93 sg_l3Inner G_l3Inner.spec := con_l3Inner.as as_l3Inner

def sg_iMatValid : Sig := { args := [.ag [.e (.var 0), .e (.var 1), .e (.var 2), .e (.var 3), .e (.var 4), .e (.var 5), .e (.var 6), .e (.var 7), .e (.var 8), .e (.var 9), .e (.var 10), .e (.var 11)]], pre := [], tin := [.int .i64, .int .i64, .int .i64, .int .i64, .int .i64, .int .i64, .int .i64, .int .i64, .int .i64, .int .i64, .int .i64, .int .i64], gin := [], res := .c (.s (.e (.var 0))), post := [], tout := [.bool], gout := [] }
def cl_iMatValid : List (Nat × Sig) := [(52, sg_iFracValid)]
theorem run_iMatValid : run ⟨Tryd.prog, glb, cl_iMatValid⟩ [] Tryd.f71 sg_iMatValid (Tryd.f71.body.getD .skip) = tr_iMatValid := by kernel_rfl
theorem om_iMatValid : ΩOK ⟨Tryd.prog, glb, cl_iMatValid⟩ (specsOf Fs_iMatValid) := (ΩOK_cons cong_iFracValid Tryd.call52 ΩOK_nil)
theorem con_iMatValid : ConOK Tryd.prog glb 71 sg_iMatValid F_iMatValid.spec := conOK_tree om_iMatValid mixed Tryd.func71 (by kernel_rfl) run_iMatValid
theorem cong_iMatValid : ConOK Tryd.prog glb 71 sg_iMatValid G_iMatValid.spec := con_iMatValid.as as_iMatValid

def sg_sMatValid : Sig := { args := [.ag [.e (.var 0), .e (.var 1), .e (.var 2), .e (.var 3), .e (.var 4), .e (.var 5), .e (.var 6), .e (.var 7), .e (.var 8), .e (.var 9), .e (.var 10), .e (.var 11)]], pre := [], tin := [.int .i64, .int .i64, .int .i64, .int .i64, .int .i64, .int .i64, .int .i64, .int .i64, .int .i64, .int .i64, .int .i64, .int .i64], gin := [], res := .c (.s (.e (.var 0))), post := [], tout := [.bool], gout := [] }
def cl_sMatValid : List (Nat × Sig) := [(73, sg_sFracValid)]
theorem run_sMatValid : run ⟨Tryd.prog, glb, cl_sMatValid⟩ [] Tryd.f67 sg_sMatValid (Tryd.f67.body.getD .skip) = tr_sMatValid := by kernel_rfl
theorem om_sMatValid : ΩOK ⟨Tryd.prog, glb, cl_sMatValid⟩ (specsOf Fs_sMatValid) := (ΩOK_cons cong_sFracValid Tryd.call73 ΩOK_nil)
theorem con_sMatValid : ConOK Tryd.prog glb 67 sg_sMatValid F_sMatValid.spec := conOK_tree om_sMatValid mixed Tryd.func67 (by kernel_rfl) run_sMatValid
theorem cong_sMatValid : ConOK Tryd.prog glb 67 sg_sMatValid G_sMatValid.spec := con_sMatValid.as as_sMatValid

def sg_iFracLess : Sig := { args := [.ag [.e (.var 0), .e (.var 1), .e (.var 2)], .ag [.e (.var 3), .e (.var 4), .e (.var 5)]], pre := [], tin := [.int .i64, .int .i64, .int .i64, .int .i64, .int .i64, .int .i64], gin := [], res := .tu [.ag [.e (.var 0), .e (.var 1), .e (.var 2)], .s (.e (.var 3))], post := [], tout := [.int .i64, .int .i64, .int .i64, .bool], gout := [] }
def cl_iFracLess : List (Nat × Sig) := [(52, sg_iFracValid), (53, sg_lowest)]
theorem run_iFracLess : run ⟨Tryd.prog, glb, cl_iFracLess⟩ [] Tryd.f82 sg_iFracLess (Tryd.f82.body.getD .skip) = tr_iFracLess := by kernel_rfl
theorem om_iFracLess : ΩOK ⟨Tryd.prog, glb, cl_iFracLess⟩ (specsOf Fs_iFracLess) := (ΩOK_cons cong_iFracValid Tryd.call52 (ΩOK_cons cong_lowest Tryd.call53 ΩOK_nil))
theorem con_iFracLess : ConOK Tryd.prog glb 82 sg_iFracLess F_iFracLess.spec := conOK_tree om_iFracLess mixed Tryd.func82 (by kernel_rfl) run_iFracLess
theorem cong_iFracLess : ConOK Tryd.prog glb 82 sg_iFracLess G_iFracLess.spec := con_iFracLess.as as_iFracLess

def sg_less : Sig := { args := [.s (.p (.own 0) 0), .ag [.e (.var 0), .e (.var 1), .e (.var 2)], .ag [.e (.var 3), .e (.var 4), .e (.var 5)]], pre := [⟨[.e (.var 6)], 64⟩], tin := [.int .i64, .int .i64, .int .i64, .int .i64, .int .i64, .int .i64, .bool], gin := [], res := .c (.ag [.e (.var 0), .e (.var 1), .e (.var 2)]), post := [⟨[.e (.var 3)], 64⟩], tout := [.int .i64, .int .i64, .int .i64, .bool], gout := [] }
def cl_less : List (Nat × Sig) := [(82, sg_iFracLess), (80, sg_keep)]
theorem run_less : run ⟨Tryd.prog, glb, cl_less⟩ [] Tryd.f48 sg_less (Tryd.f48.body.getD .skip) = tr_less := by kernel_rfl
theorem om_less : ΩOK ⟨Tryd.prog, glb, cl_less⟩ (specsOf Fs_less) := (ΩOK_cons cong_iFracLess Tryd.call82 (ΩOK_cons con_keep Tryd.call80 ΩOK_nil))
theorem con_less : ConOK Tryd.prog glb 48 sg_less F_less.spec := conOK_tree om_less mixed Tryd.func48 (by kernel_rfl) run_less
theorem cong_less : ConOK Tryd.prog glb 48 sg_less G_less.spec := con_less.as as_less

def sg_indexOk : Sig := { args := [.ag [.e (.var 0), .e (.var 1), .e (.var 2)]], pre := [], tin := [.int .i64, .int .i64, .int .i64], gin := [], res := .c (.s (.e (.var 0))), post := [], tout := [.bool], gout := [] }
def cl_indexOk : List (Nat × Sig) := [(52, sg_iFracValid)]
theorem run_indexOk : run ⟨Tryd.prog, glb, cl_indexOk⟩ [] Tryd.f77 sg_indexOk (Tryd.f77.body.getD .skip) = tr_indexOk := by kernel_rfl
theorem om_indexOk : ΩOK ⟨Tryd.prog, glb, cl_indexOk⟩ (specsOf Fs_indexOk) := (ΩOK_cons cong_iFracValid Tryd.call52 ΩOK_nil)
theorem con_indexOk : ConOK Tryd.prog glb 77 sg_indexOk F_indexOk.spec := conOK_tree om_indexOk mixed Tryd.func77 (by kernel_rfl) run_indexOk
theorem cong_indexOk : ConOK Tryd.prog glb 77 sg_indexOk G_indexOk.spec := con_indexOk.as as_indexOk

def sg_iFilmValid : Sig := { args := [.s (.e (.var 0))], pre := [], tin := [.sl, .row .i64 4], gin := [(0, 1, 4)], res := .c (.s (.e (.var 0))), post := [], tout := [.bool], gout := [] }
def cl_iFilmValid : List (Nat × Sig) := [(77, sg_indexOk), (84, sg_within)]
theorem run_iFilmValid : run ⟨Tryd.prog, glb, cl_iFilmValid⟩ [(0, ⟨[(7, .int .i64)], [], none⟩)] Tryd.f50 sg_iFilmValid (Tryd.f50.body.getD .skip) = tr_iFilmValid := by kernel_rfl
theorem om_iFilmValid : ΩOK ⟨Tryd.prog, glb, cl_iFilmValid⟩ (specsOf Fs_iFilmValid) := (ΩOK_cons cong_indexOk Tryd.call77 (ΩOK_cons cong_within Tryd.call84 ΩOK_nil))
theorem con_iFilmValid : ConOK Tryd.prog glb 50 sg_iFilmValid F_iFilmValid.spec := conOK_of om_iFilmValid mixed Tryd.func50 (by kernel_rfl) run_iFilmValid (fun ins K ht h => sat_iFilmValid Tryd.prog ins K ht h.1 h.2)

def sg_sFilmValid : Sig := { args := [.s (.e (.var 0))], pre := [], tin := [.sl, .row .i64 4], gin := [(0, 1, 4)], res := .c (.s (.e (.var 0))), post := [], tout := [.bool], gout := [] }
def cl_sFilmValid : List (Nat × Sig) := [(73, sg_sFracValid), (91, sg_l6In)]
theorem run_sFilmValid : run ⟨Tryd.prog, glb, cl_sFilmValid⟩ [(0, ⟨[(3, .int .i64)], [], none⟩)] Tryd.f64 sg_sFilmValid (Tryd.f64.body.getD .skip) = tr_sFilmValid := by kernel_rfl
theorem om_sFilmValid : ΩOK ⟨Tryd.prog, glb, cl_sFilmValid⟩ (specsOf Fs_sFilmValid) := (ΩOK_cons cong_sFracValid Tryd.call73 (ΩOK_cons cong_l6In Tryd.call91 ΩOK_nil))
theorem con_sFilmValid : ConOK Tryd.prog glb 64 sg_sFilmValid F_sFilmValid.spec := conOK_of om_sFilmValid mixed Tryd.func64 (by kernel_rfl) run_sFilmValid (fun ins K ht h => sat_sFilmValid Tryd.prog ins K ht h.1 h.2)

def sg_mcell00 : Sig := { args := [.s (.e (.int .i64 (0))), .s (.e (.int .i64 (0))), .s (.p (.own 0) 0), .s (.p (.own 1) 0), .s (.p (.own 2) 0)], pre := [⟨[.p (.own 3) 0], 62⟩, ⟨[.e (.var 0), .e (.var 1), .e (.var 2), .e (.var 3), .e (.var 4), .e (.var 5), .e (.var 6), .e (.var 7), .e (.var 8), .e (.var 9), .e (.var 10), .e (.var 11)], 52⟩, ⟨[.e (.var 12), .e (.var 13), .e (.var 14), .e (.var 15), .e (.var 16), .e (.var 17), .e (.var 18), .e (.var 19), .e (.var 20), .e (.var 21), .e (.var 22), .e (.var 23)], 52⟩, ⟨[.e (.var 24)], 64⟩], tin := [.int .i64, .int .i64, .int .i64, .int .i64, .int .i64, .int .i64, .int .i64, .int .i64, .int .i64, .int .i64, .int .i64, .int .i64, .int .i64, .int .i64, .int .i64, .int .i64, .int .i64, .int .i64, .int .i64, .int .i64, .int .i64, .int .i64, .int .i64, .int .i64, .bool], gin := [], res := .c (.ag [.e (.var 0), .e (.var 1), .e (.var 2)]), post := [⟨[.p (.own 3) 0], 62⟩, ⟨[.e (.var 3), .e (.var 4), .e (.var 5), .e (.var 6), .e (.var 7), .e (.var 8), .e (.var 9), .e (.var 10), .e (.var 11), .e (.var 12), .e (.var 13), .e (.var 14)], 52⟩, ⟨[.e (.var 15), .e (.var 16), .e (.var 17), .e (.var 18), .e (.var 19), .e (.var 20), .e (.var 21), .e (.var 22), .e (.var 23), .e (.var 24), .e (.var 25), .e (.var 26)], 52⟩, ⟨[.e (.var 27)], 64⟩], tout := [.int .i64, .int .i64, .int .i64, .int .i64, .int .i64, .int .i64, .int .i64, .int .i64, .int .i64, .int .i64, .int .i64, .int .i64, .int .i64, .int .i64, .int .i64, .int .i64, .int .i64, .int .i64, .int .i64, .int .i64, .int .i64, .int .i64, .int .i64, .int .i64, .int .i64, .int .i64, .int .i64, .bool], gout := [] }
def cl_mcell00 : List (Nat × Sig) := [(45, sg_times), (79, sg_add)]
theorem run_mcell00 : run ⟨Tryd.prog, glb, cl_mcell00⟩ [] Tryd.f95 sg_mcell00 (Tryd.f95.body.getD .skip) = tr_mcell00 := by kernel_rfl
theorem om_mcell00 : ΩOK ⟨Tryd.prog, glb, cl_mcell00⟩ (specsOf Fs_mcell00) := (ΩOK_cons cong_times Tryd.call45 (ΩOK_cons cong_add Tryd.call79 ΩOK_nil))
theorem con_mcell00 : ConOK Tryd.prog glb 95 sg_mcell00 F_mcell00.spec := conOK_tree om_mcell00 mixed Tryd.func95 (by kernel_rfl) run_mcell00
theorem cong_mcell00 : ConOK Tryd.prog glb 95 sg_mcell00 G_mcell00.spec := con_mcell00.as as_mcell00

def sg_mcell01 : Sig := { args := [.s (.e (.int .i64 (0))), .s (.e (.int .i64 (1))), .s (.p (.own 0) 0), .s (.p (.own 1) 0), .s (.p (.own 2) 0)], pre := [⟨[.p (.own 3) 0], 62⟩, ⟨[.e (.var 0), .e (.var 1), .e (.var 2), .e (.var 3), .e (.var 4), .e (.var 5), .e (.var 6), .e (.var 7), .e (.var 8), .e (.var 9), .e (.var 10), .e (.var 11)], 52⟩, ⟨[.e (.var 12), .e (.var 13), .e (.var 14), .e (.var 15), .e (.var 16), .e (.var 17), .e (.var 18), .e (.var 19), .e (.var 20), .e (.var 21), .e (.var 22), .e (.var 23)], 52⟩, ⟨[.e (.var 24)], 64⟩], tin := [.int .i64, .int .i64, .int .i64, .int .i64, .int .i64, .int .i64, .int .i64, .int .i64, .int .i64, .int .i64, .int .i64, .int .i64, .int .i64, .int .i64, .int .i64, .int .i64, .int .i64, .int .i64, .int .i64, .int .i64, .int .i64, .int .i64, .int .i64, .int .i64, .bool], gin := [], res := .c (.ag [.e (.var 0), .e (.var 1), .e (.var 2)]), post := [⟨[.p (.own 3) 0], 62⟩, ⟨[.e (.var 3), .e (.var 4), .e (.var 5), .e (.var 6), .e (.var 7), .e (.var 8), .e (.var 9), .e (.var 10), .e (.var 11), .e (.var 12), .e (.var 13), .e (.var 14)], 52⟩, ⟨[.e (.var 15), .e (.var 16), .e (.var 17), .e (.var 18), .e (.var 19), .e (.var 20), .e (.var 21), .e (.var 22), .e (.var 23), .e (.var 24), .e (.var 25), .e (.var 26)], 52⟩, ⟨[.e (.var 27)], 64⟩], tout := [.int .i64, .int .i64, .int .i64, .int .i64, .int .i64, .int .i64, .int .i64, .int .i64, .int .i64, .int .i64, .int .i64, .int .i64, .int .i64, .int .i64, .int .i64, .int .i64, .int .i64, .int .i64, .int .i64, .int .i64, .int .i64, .int .i64, .int .i64, .int .i64, .int .i64, .int .i64, .int .i64, .bool], gout := [] }
def cl_mcell01 : List (Nat × Sig) := [(45, sg_times), (79, sg_add)]
theorem run_mcell01 : run ⟨Tryd.prog, glb, cl_mcell01⟩ [] Tryd.f95 sg_mcell01 (Tryd.f95.body.getD .skip) = tr_mcell01 := by kernel_rfl
theorem om_mcell01 : ΩOK ⟨Tryd.prog, glb, cl_mcell01⟩ (specsOf Fs_mcell01) := (ΩOK_cons cong_times Tryd.call45 (ΩOK_cons cong_add Tryd.call79 ΩOK_nil))
theorem con_mcell01 : ConOK Tryd.prog glb 95 sg_mcell01 F_mcell01.spec := conOK_tree om_mcell01 mixed Tryd.func95 (by kernel_rfl) run_mcell01
theorem cong_mcell01 : ConOK Tryd.prog glb 95 sg_mcell01 G_mcell01.spec := con_mcell01.as as_mcell01

def sg_mcell10 : Sig := { args := [.s (.e (.int .i64 (1))), .s (.e (.int .i64 (0))), .s (.p (.own 0) 0), .s (.p (.own 1) 0), .s (.p (.own 2) 0)], pre := [⟨[.p (.own 3) 0], 62⟩, ⟨[.e (.var 0), .e (.var 1), .e (.var 2), .e (.var 3), .e (.var 4), .e (.var 5), .e (.var 6), .e (.var 7), .e (.var 8), .e (.var 9), .e (.var 10), .e (.var 11)], 52⟩, ⟨[.e (.var 12), .e (.var 13), .e (.var 14), .e (.var 15), .e (.var 16), .e (.var 17), .e (.var 18), .e (.var 19), .e (.var 20), .e (.var 21), .e (.var 22), .e (.var 23)], 52⟩, ⟨[.e (.var 24)], 64⟩], tin := [.int .i64, .int .i64, .int .i64, .int .i64, .int .i64, .int .i64, .int .i64, .int .i64, .int .i64, .int .i64, .int .i64, .int .i64, .int .i64, .int .i64, .int .i64, .int .i64, .int .i64, .int .i64, .int .i64, .int .i64, .int .i64, .int .i64, .int .i64, .int .i64, .bool], gin := [], res := .c (.ag [.e (.var 0), .e (.var 1), .e (.var 2)]), post := [⟨[.p (.own 3) 0], 62⟩, ⟨[.e (.var 3), .e (.var 4), .e (.var 5), .e (.var 6), .e (.var 7), .e (.var 8), .e (.var 9), .e (.var 10), .e (.var 11), .e (.var 12), .e (.var 13), .e (.var 14)], 52⟩, ⟨[.e (.var 15), .e (.var 16), .e (.var 17), .e (.var 18), .e (.var 19), .e (.var 20), .e (.var 21), .e (.var 22), .e (.var 23), .e (.var 24), .e (.var 25), .e (.var 26)], 52⟩, ⟨[.e (.var 27)], 64⟩], tout := [.int .i64, .int .i64, .int .i64, .int .i64, .int .i64, .int .i64, .int .i64, .int .i64, .int .i64, .int .i64, .int .i64, .int .i64, .int .i64, .int .i64, .int .i64, .int .i64, .int .i64, .int .i64, .int .i64, .int .i64, .int .i64, .int .i64, .int .i64, .int .i64, .int .i64, .int .i64, .int .i64, .bool], gout := [] }
def cl_mcell10 : List (Nat × Sig) := [(45, sg_times), (79, sg_add)]
theorem run_mcell10 : run ⟨Tryd.prog, glb, cl_mcell10⟩ [] Tryd.f95 sg_mcell10 (Tryd.f95.body.getD .skip) = tr_mcell10 := by kernel_rfl
theorem om_mcell10 : ΩOK ⟨Tryd.prog, glb, cl_mcell10⟩ (specsOf Fs_mcell10) := (ΩOK_cons cong_times Tryd.call45 (ΩOK_cons cong_add Tryd.call79 ΩOK_nil))
theorem con_mcell10 : ConOK Tryd.prog glb 95 sg_mcell10 F_mcell10.spec := conOK_tree om_mcell10 mixed Tryd.func95 (by kernel_rfl) run_mcell10
theorem cong_mcell10 : ConOK Tryd.prog glb 95 sg_mcell10 G_mcell10.spec := con_mcell10.as as_mcell10

def sg_mcell11 : Sig := { args := [.s (.e (.int .i64 (1))), .s (.e (.int .i64 (1))), .s (.p (.own 0) 0), .s (.p (.own 1) 0), .s (.p (.own 2) 0)], pre := [⟨[.p (.own 3) 0], 62⟩, ⟨[.e (.var 0), .e (.var 1), .e (.var 2), .e (.var 3), .e (.var 4), .e (.var 5), .e (.var 6), .e (.var 7), .e (.var 8), .e (.var 9), .e (.var 10), .e (.var 11)], 52⟩, ⟨[.e (.var 12), .e (.var 13), .e (.var 14), .e (.var 15), .e (.var 16), .e (.var 17), .e (.var 18), .e (.var 19), .e (.var 20), .e (.var 21), .e (.var 22), .e (.var 23)], 52⟩, ⟨[.e (.var 24)], 64⟩], tin := [.int .i64, .int .i64, .int .i64, .int .i64, .int .i64, .int .i64, .int .i64, .int .i64, .int .i64, .int .i64, .int .i64, .int .i64, .int .i64, .int .i64, .int .i64, .int .i64, .int .i64, .int .i64, .int .i64, .int .i64, .int .i64, .int .i64, .int .i64, .int .i64, .bool], gin := [], res := .c (.ag [.e (.var 0), .e (.var 1), .e (.var 2)]), post := [⟨[.p (.own 3) 0], 62⟩, ⟨[.e (.var 3), .e (.var 4), .e (.var 5), .e (.var 6), .e (.var 7), .e (.var 8), .e (.var 9), .e (.var 10), .e (.var 11), .e (.var 12), .e (.var 13), .e (.var 14)], 52⟩, ⟨[.e (.var 15), .e (.var 16), .e (.var 17), .e (.var 18), .e (.var 19), .e (.var 20), .e (.var 21), .e (.var 22), .e (.var 23), .e (.var 24), .e (.var 25), .e (.var 26)], 52⟩, ⟨[.e (.var 27)], 64⟩], tout := [.int .i64, .int .i64, .int .i64, .int .i64, .int .i64, .int .i64, .int .i64, .int .i64, .int .i64, .int .i64, .int .i64, .int .i64, .int .i64, .int .i64, .int .i64, .int .i64, .int .i64, .int .i64, .int .i64, .int .i64, .int .i64, .int .i64, .int .i64, .int .i64, .int .i64, .int .i64, .int .i64, .bool], gout := [] }
def cl_mcell11 : List (Nat × Sig) := [(45, sg_times), (79, sg_add)]
theorem run_mcell11 : run ⟨Tryd.prog, glb, cl_mcell11⟩ [] Tryd.f95 sg_mcell11 (Tryd.f95.body.getD .skip) = tr_mcell11 := by kernel_rfl
theorem om_mcell11 : ΩOK ⟨Tryd.prog, glb, cl_mcell11⟩ (specsOf Fs_mcell11) := (ΩOK_cons cong_times Tryd.call45 (ΩOK_cons cong_add Tryd.call79 ΩOK_nil))
theorem con_mcell11 : ConOK Tryd.prog glb 95 sg_mcell11 F_mcell11.spec := conOK_tree om_mcell11 mixed Tryd.func95 (by kernel_rfl) run_mcell11
theorem cong_mcell11 : ConOK Tryd.prog glb 95 sg_mcell11 G_mcell11.spec := con_mcell11.as as_mcell11

def sg_gotMat : Sig := { args := [.s (.p (.own 0) 0), .ag [.e (.var 0), .e (.var 1), .e (.var 2), .e (.var 3), .e (.var 4), .e (.var 5), .e (.var 6), .e (.var 7), .e (.var 8), .e (.var 9), .e (.var 10), .e (.var 11)]], pre := [⟨[.e (.var 12)], 64⟩], tin := [.int .i64, .int .i64, .int .i64, .int .i64, .int .i64, .int .i64, .int .i64, .int .i64, .int .i64, .int .i64, .int .i64, .int .i64, .bool], gin := [], res := .tu [.ag [.e (.var 0), .e (.var 1), .e (.var 2), .e (.var 3), .e (.var 4), .e (.var 5), .e (.var 6), .e (.var 7), .e (.var 8), .e (.var 9), .e (.var 10), .e (.var 11)], .s (.e (.var 12))], post := [⟨[.e (.var 13)], 64⟩], tout := [.int .i64, .int .i64, .int .i64, .int .i64, .int .i64, .int .i64, .int .i64, .int .i64, .int .i64, .int .i64, .int .i64, .int .i64, .bool, .bool], gout := [] }
def cl_gotMat : List (Nat × Sig) := []
theorem run_gotMat : run ⟨Tryd.prog, glb, cl_gotMat⟩ [] Tryd.f96 sg_gotMat (Tryd.f96.body.getD .skip) = tr_gotMat := by kernel_rfl
theorem om_gotMat : ΩOK ⟨Tryd.prog, glb, cl_gotMat⟩ (specsOf Fs_gotMat) := ΩOK_nil
theorem con_gotMat : ConOK Tryd.prog glb 96 sg_gotMat F_gotMat.spec := conOK_tree om_gotMat mixed Tryd.func96 (by kernel_rfl) run_gotMat
theorem cong_gotMat : ConOK Tryd.prog glb 96 sg_gotMat G_gotMat.spec := con_gotMat.as as_gotMat

def sg_iMatTimes : Sig := { args := [.ag [.e (.var 0), .e (.var 1), .e (.var 2), .e (.var 3), .e (.var 4), .e (.var 5), .e (.var 6), .e (.var 7), .e (.var 8), .e (.var 9), .e (.var 10), .e (.var 11)], .ag [.e (.var 12), .e (.var 13), .e (.var 14), .e (.var 15), .e (.var 16), .e (.var 17), .e (.var 18), .e (.var 19), .e (.var 20), .e (.var 21), .e (.var 22), .e (.var 23)]], pre := [], tin := [.int .i64, .int .i64, .int .i64, .int .i64, .int .i64, .int .i64, .int .i64, .int .i64, .int .i64, .int .i64, .int .i64, .int .i64, .int .i64, .int .i64, .int .i64, .int .i64, .int .i64, .int .i64, .int .i64, .int .i64, .int .i64, .int .i64, .int .i64, .int .i64], gin := [], res := .tu [.ag [.e (.var 0), .e (.var 1), .e (.var 2), .e (.var 3), .e (.var 4), .e (.var 5), .e (.var 6), .e (.var 7), .e (.var 8), .e (.var 9), .e (.var 10), .e (.var 11)], .s (.e (.var 12))], post := [], tout := [.int .i64, .int .i64, .int .i64, .int .i64, .int .i64, .int .i64, .int .i64, .int .i64, .int .i64, .int .i64, .int .i64, .int .i64, .bool], gout := [] }
def cl_iMatTimes : List (Nat × Sig) := [(71, sg_iMatValid), (42, sg_need), (95, sg_mcell00), (95, sg_mcell01), (95, sg_mcell10), (95, sg_mcell11), (96, sg_gotMat)]
theorem run_iMatTimes : run ⟨Tryd.prog, glb, cl_iMatTimes⟩ [] Tryd.f70 sg_iMatTimes (Tryd.f70.body.getD .skip) = tr_iMatTimes := by kernel_rfl
theorem om_iMatTimes : ΩOK ⟨Tryd.prog, glb, cl_iMatTimes⟩ (specsOf Fs_iMatTimes) := (ΩOK_cons cong_iMatValid Tryd.call71 (ΩOK_cons cong_need Tryd.call42 (ΩOK_cons cong_mcell00 Tryd.call95 (ΩOK_cons cong_mcell01 Tryd.call95 (ΩOK_cons cong_mcell10 Tryd.call95 (ΩOK_cons cong_mcell11 Tryd.call95 (ΩOK_cons cong_gotMat Tryd.call96 ΩOK_nil)))))))
theorem con_iMatTimes : ConOK Tryd.prog glb 70 sg_iMatTimes F_iMatTimes.spec := conOK_tree om_iMatTimes mixed Tryd.func70 (by kernel_rfl) run_iMatTimes
theorem cong_iMatTimes : ConOK Tryd.prog glb 70 sg_iMatTimes G_iMatTimes.spec := con_iMatTimes.as as_iMatTimes

def sg_l5Four : Sig := { args := [.ag [.e (.var 0), .e (.var 1), .e (.var 2)], .ag [.e (.var 3), .e (.var 4), .e (.var 5)], .ag [.e (.var 6), .e (.var 7), .e (.var 8)], .ag [.e (.var 9), .e (.var 10), .e (.var 11)], .s (.e (.var 12))], pre := [], tin := [.int .i64, .int .i64, .int .i64, .int .i64, .int .i64, .int .i64, .int .i64, .int .i64, .int .i64, .int .i64, .int .i64, .int .i64, .bool], gin := [], res := .tu [.ag [.e (.var 0), .e (.var 1), .e (.var 2), .e (.var 3), .e (.var 4), .e (.var 5), .e (.var 6), .e (.var 7), .e (.var 8), .e (.var 9), .e (.var 10), .e (.var 11)], .s (.e (.var 12))], post := [], tout := [.int .i64, .int .i64, .int .i64, .int .i64, .int .i64, .int .i64, .int .i64, .int .i64, .int .i64, .int .i64, .int .i64, .int .i64, .bool], gout := [] }
def cl_l5Four : List (Nat × Sig) := []
theorem run_l5Four : run ⟨Tryd.prog, glb, cl_l5Four⟩ [] Tryd.f92 sg_l5Four (Tryd.f92.body.getD .skip) = tr_l5Four := by kernel_rfl
theorem om_l5Four : ΩOK ⟨Tryd.prog, glb, cl_l5Four⟩ (specsOf Fs_l5Four) := ΩOK_nil
theorem con_l5Four : ConOK Tryd.prog glb 92 sg_l5Four F_l5Four.spec := conOK_tree om_l5Four mixed Tryd.func92 (by kernel_rfl) run_l5Four
theorem cong_l5Four : ConOK Tryd.prog glb 92 sg_l5Four G_l5Four.spec := con_l5Four.as as_l5Four

def sg_sMatTimes : Sig := { args := [.ag [.e (.var 0), .e (.var 1), .e (.var 2), .e (.var 3), .e (.var 4), .e (.var 5), .e (.var 6), .e (.var 7), .e (.var 8), .e (.var 9), .e (.var 10), .e (.var 11)], .ag [.e (.var 12), .e (.var 13), .e (.var 14), .e (.var 15), .e (.var 16), .e (.var 17), .e (.var 18), .e (.var 19), .e (.var 20), .e (.var 21), .e (.var 22), .e (.var 23)]], pre := [], tin := [.int .i64, .int .i64, .int .i64, .int .i64, .int .i64, .int .i64, .int .i64, .int .i64, .int .i64, .int .i64, .int .i64, .int .i64, .int .i64, .int .i64, .int .i64, .int .i64, .int .i64, .int .i64, .int .i64, .int .i64, .int .i64, .int .i64, .int .i64, .int .i64], gin := [], res := .tu [.ag [.e (.var 0), .e (.var 1), .e (.var 2), .e (.var 3), .e (.var 4), .e (.var 5), .e (.var 6), .e (.var 7), .e (.var 8), .e (.var 9), .e (.var 10), .e (.var 11)], .s (.e (.var 12))], post := [], tout := [.int .i64, .int .i64, .int .i64, .int .i64, .int .i64, .int .i64, .int .i64, .int .i64, .int .i64, .int .i64, .int .i64, .int .i64, .bool], gout := [] }
def cl_sMatTimes : List (Nat × Sig) := [(67, sg_sMatValid), (93, sg_l3Inner), (92, sg_l5Four)]
theorem run_sMatTimes : run ⟨Tryd.prog, glb, cl_sMatTimes⟩ [] Tryd.f66 sg_sMatTimes (Tryd.f66.body.getD .skip) = tr_sMatTimes := by kernel_rfl
theorem om_sMatTimes : ΩOK ⟨Tryd.prog, glb, cl_sMatTimes⟩ (specsOf Fs_sMatTimes) := (ΩOK_cons cong_sMatValid Tryd.call67 (ΩOK_cons cong_l3Inner Tryd.call93 (ΩOK_cons cong_l5Four Tryd.call92 ΩOK_nil)))
theorem con_sMatTimes : ConOK Tryd.prog glb 66 sg_sMatTimes F_sMatTimes.spec := conOK_tree om_sMatTimes mixed Tryd.func66 (by kernel_rfl) run_sMatTimes
theorem cong_sMatTimes : ConOK Tryd.prog glb 66 sg_sMatTimes G_sMatTimes.spec := con_sMatTimes.as as_sMatTimes

def sg_wholeM : Sig := { args := [.s (.e (.int .i64 (-1)))], pre := [], tin := [], gin := [], res := .c (.ag [.e (.int .i64 (-1)), .e (.int .i64 (0)), .e (.int .i64 (1))]), post := [], tout := [], gout := [] }
def cl_wholeM : List (Nat × Sig) := []
theorem run_wholeM : run ⟨Tryd.prog, glb, cl_wholeM⟩ [] Tryd.f46 sg_wholeM (Tryd.f46.body.getD .skip) = tr_wholeM := by kernel_rfl
theorem om_wholeM : ΩOK ⟨Tryd.prog, glb, cl_wholeM⟩ (specsOf Fs_wholeM) := ΩOK_nil
theorem con_wholeM : ConOK Tryd.prog glb 46 sg_wholeM F_wholeM.spec := conOK_tree om_wholeM mixed Tryd.func46 (by kernel_rfl) run_wholeM

def sg_iMatScaleM : Sig := { args := [.ag [.e (.var 0), .e (.var 1), .e (.var 2), .e (.var 3), .e (.var 4), .e (.var 5), .e (.var 6), .e (.var 7), .e (.var 8), .e (.var 9), .e (.var 10), .e (.var 11)], .ag [.e (.int .i64 (-1)), .e (.int .i64 (0)), .e (.int .i64 (1))]], pre := [], tin := [.int .i64, .int .i64, .int .i64, .int .i64, .int .i64, .int .i64, .int .i64, .int .i64, .int .i64, .int .i64, .int .i64, .int .i64], gin := [], res := .tu [.ag [.e (.var 0), .e (.var 1), .e (.var 2), .e (.var 3), .e (.var 4), .e (.var 5), .e (.var 6), .e (.var 7), .e (.var 8), .e (.var 9), .e (.var 10), .e (.var 11)], .s (.e (.var 12))], post := [], tout := [.int .i64, .int .i64, .int .i64, .int .i64, .int .i64, .int .i64, .int .i64, .int .i64, .int .i64, .int .i64, .int .i64, .int .i64, .bool], gout := [] }
def cl_iMatScaleM : List (Nat × Sig) := [(71, sg_iMatValid), (52, sg_iFracValid), (42, sg_need), (45, sg_times), (96, sg_gotMat)]
theorem run_iMatScaleM : run ⟨Tryd.prog, glb, cl_iMatScaleM⟩ [] Tryd.f94 sg_iMatScaleM (Tryd.f94.body.getD .skip) = tr_iMatScaleM := by kernel_rfl
theorem om_iMatScaleM : ΩOK ⟨Tryd.prog, glb, cl_iMatScaleM⟩ (specsOf Fs_iMatScaleM) := (ΩOK_cons cong_iMatValid Tryd.call71 (ΩOK_cons cong_iFracValid Tryd.call52 (ΩOK_cons cong_need Tryd.call42 (ΩOK_cons cong_times Tryd.call45 (ΩOK_cons cong_gotMat Tryd.call96 ΩOK_nil)))))
theorem con_iMatScaleM : ConOK Tryd.prog glb 94 sg_iMatScaleM F_iMatScaleM.spec := conOK_tree om_iMatScaleM mixed Tryd.func94 (by kernel_rfl) run_iMatScaleM
theorem cong_iMatScaleM : ConOK Tryd.prog glb 94 sg_iMatScaleM G_iMatScaleM.spec := con_iMatScaleM.as as_iMatScaleM

def sg_iFracOver : Sig := { args := [.ag [.e (.var 0), .e (.var 1), .e (.var 2)], .ag [.e (.var 3), .e (.var 4), .e (.var 5)]], pre := [], tin := [.int .i64, .int .i64, .int .i64, .int .i64, .int .i64, .int .i64], gin := [], res := .tu [.ag [.e (.var 0), .e (.var 1), .e (.var 2)], .s (.e (.var 3))], post := [], tout := [.int .i64, .int .i64, .int .i64, .bool], gout := [] }
def cl_iFracOver : List (Nat × Sig) := [(52, sg_iFracValid), (53, sg_lowest), (25, sg_iFracTimes)]
theorem run_iFracOver : run ⟨Tryd.prog, glb, cl_iFracOver⟩ [] Tryd.f81 sg_iFracOver (Tryd.f81.body.getD .skip) = tr_iFracOver := by kernel_rfl
theorem om_iFracOver : ΩOK ⟨Tryd.prog, glb, cl_iFracOver⟩ (specsOf Fs_iFracOver) := (ΩOK_cons cong_iFracValid Tryd.call52 (ΩOK_cons cong_lowest Tryd.call53 (ΩOK_cons cong_iFracTimes Tryd.call25 ΩOK_nil)))
theorem con_iFracOver : ConOK Tryd.prog glb 81 sg_iFracOver F_iFracOver.spec := conOK_tree om_iFracOver mixed Tryd.func81 (by kernel_rfl) run_iFracOver
theorem cong_iFracOver : ConOK Tryd.prog glb 81 sg_iFracOver G_iFracOver.spec := con_iFracOver.as as_iFracOver

def sg_over : Sig := { args := [.s (.p (.own 0) 0), .ag [.e (.var 0), .e (.var 1), .e (.var 2)], .ag [.e (.var 3), .e (.var 4), .e (.var 5)]], pre := [⟨[.e (.var 6)], 64⟩], tin := [.int .i64, .int .i64, .int .i64, .int .i64, .int .i64, .int .i64, .bool], gin := [], res := .c (.ag [.e (.var 0), .e (.var 1), .e (.var 2)]), post := [⟨[.e (.var 3)], 64⟩], tout := [.int .i64, .int .i64, .int .i64, .bool], gout := [] }
def cl_over : List (Nat × Sig) := [(81, sg_iFracOver), (80, sg_keep)]
theorem run_over : run ⟨Tryd.prog, glb, cl_over⟩ [] Tryd.f44 sg_over (Tryd.f44.body.getD .skip) = tr_over := by kernel_rfl
theorem om_over : ΩOK ⟨Tryd.prog, glb, cl_over⟩ (specsOf Fs_over) := (ΩOK_cons cong_iFracOver Tryd.call81 (ΩOK_cons con_keep Tryd.call80 ΩOK_nil))
theorem con_over : ConOK Tryd.prog glb 44 sg_over F_over.spec := conOK_tree om_over mixed Tryd.func44 (by kernel_rfl) run_over
theorem cong_over : ConOK Tryd.prog glb 44 sg_over G_over.spec := con_over.as as_over

def sg_layerMat : Sig := { args := [.ag [.e (.var 0), .e (.var 1), .e (.var 2), .e (.var 3)]], pre := [], tin := [.int .i64, .int .i64, .int .i64, .int .i64], gin := [], res := .tu [.ag [.e (.var 0), .e (.var 1), .e (.var 2), .e (.var 3), .e (.var 4), .e (.var 5), .e (.var 6), .e (.var 7), .e (.var 8), .e (.var 9), .e (.var 10), .e (.var 11)], .s (.e (.var 12))], post := [], tout := [.int .i64, .int .i64, .int .i64, .int .i64, .int .i64, .int .i64, .int .i64, .int .i64, .int .i64, .int .i64, .int .i64, .int .i64, .bool], gout := [] }
def cl_layerMat : List (Nat × Sig) := [(46, sg_wholeM), (44, sg_over), (45, sg_times), (94, sg_iMatScaleM)]
theorem run_layerMat : run ⟨Tryd.prog, glb, cl_layerMat⟩ [] Tryd.f69 sg_layerMat (Tryd.f69.body.getD .skip) = tr_layerMat := by kernel_rfl
theorem om_layerMat : ΩOK ⟨Tryd.prog, glb, cl_layerMat⟩ (specsOf Fs_layerMat) := (ΩOK_cons con_wholeM Tryd.call46 (ΩOK_cons cong_over Tryd.call44 (ΩOK_cons cong_times Tryd.call45 (ΩOK_cons cong_iMatScaleM Tryd.call94 ΩOK_nil))))
theorem con_layerMat : ConOK Tryd.prog glb 69 sg_layerMat F_layerMat.spec := conOK_tree om_layerMat mixed Tryd.func69 (by kernel_rfl) run_layerMat
theorem cong_layerMat : ConOK Tryd.prog glb 69 sg_layerMat G_layerMat.spec := con_layerMat.as as_layerMat

def sg_l2Turned : Sig := { args := [.ag [.e (.var 0), .e (.var 1), .e (.var 2)]], pre := [], tin := [.int .i64, .int .i64, .int .i64], gin := [], res := .tu [.ag [.e (.var 0), .e (.var 1), .e (.var 2)], .s (.e (.var 3))], post := [], tout := [.int .i64, .int .i64, .int .i64, .bool], gout := [] }
def cl_l2Turned : List (Nat × Sig) := [(98, sg_l2Gcd), (89, sg_l2Low)]
theorem run_l2Turned : run ⟨Tryd.prog, glb, cl_l2Turned⟩ [] Tryd.f76 sg_l2Turned (Tryd.f76.body.getD .skip) = tr_l2Turned := by kernel_rfl
theorem om_l2Turned : ΩOK ⟨Tryd.prog, glb, cl_l2Turned⟩ (specsOf Fs_l2Turned) := (ΩOK_cons con_l2Gcd Tryd.call98 (ΩOK_cons cong_l2Low Tryd.call89 ΩOK_nil))
theorem con_l2Turned : ConOK Tryd.prog glb 76 sg_l2Turned F_l2Turned.spec := conOK_tree om_l2Turned mixed Tryd.func76 (by kernel_rfl) run_l2Turned
theorem cong_l2Turned : ConOK Tryd.prog glb 76 sg_l2Turned G_l2Turned.spec := con_l2Turned.as as_l2Turned

def sg_sFracOver : Sig := { args := [.ag [.e (.var 0), .e (.var 1), .e (.var 2)], .ag [.e (.var 3), .e (.var 4), .e (.var 5)]], pre := [], tin := [.int .i64, .int .i64, .int .i64, .int .i64, .int .i64, .int .i64], gin := [], res := .tu [.ag [.e (.var 0), .e (.var 1), .e (.var 2)], .s (.e (.var 3))], post := [], tout := [.int .i64, .int .i64, .int .i64, .bool], gout := [] }
def cl_sFracOver : List (Nat × Sig) := [(73, sg_sFracValid), (76, sg_l2Turned), (59, sg_sFracTimes)]
theorem run_sFracOver : run ⟨Tryd.prog, glb, cl_sFracOver⟩ [] Tryd.f40 sg_sFracOver (Tryd.f40.body.getD .skip) = tr_sFracOver := by kernel_rfl
theorem om_sFracOver : ΩOK ⟨Tryd.prog, glb, cl_sFracOver⟩ (specsOf Fs_sFracOver) := (ΩOK_cons cong_sFracValid Tryd.call73 (ΩOK_cons cong_l2Turned Tryd.call76 (ΩOK_cons cong_sFracTimes Tryd.call59 ΩOK_nil)))
theorem con_sFracOver : ConOK Tryd.prog glb 40 sg_sFracOver F_sFracOver.spec := conOK_tree om_sFracOver mixed Tryd.func40 (by kernel_rfl) run_sFracOver
theorem cong_sFracOver : ConOK Tryd.prog glb 40 sg_sFracOver G_sFracOver.spec := con_sFracOver.as as_sFracOver

def sg_l5Phase0 : Sig := { args := [.s (.e (.int .i64 (0)))], pre := [], tin := [], gin := [], res := .c (.ag [.e (.int .i64 (1)), .e (.int .i64 (0)), .e (.int .i64 (1))]), post := [], tout := [], gout := [] }
def cl_l5Phase0 : List (Nat × Sig) := []
theorem run_l5Phase0 : run ⟨Tryd.prog, glb, cl_l5Phase0⟩ [] Tryd.f63 sg_l5Phase0 (Tryd.f63.body.getD .skip) = tr_l5Phase0 := by kernel_rfl
theorem om_l5Phase0 : ΩOK ⟨Tryd.prog, glb, cl_l5Phase0⟩ (specsOf Fs_l5Phase0) := ΩOK_nil
theorem con_l5Phase0 : ConOK Tryd.prog glb 63 sg_l5Phase0 F_l5Phase0.spec := conOK_tree om_l5Phase0 mixed Tryd.func63 (by kernel_rfl) run_l5Phase0

def sg_l5Phase2 : Sig := { args := [.s (.e (.int .i64 (2)))], pre := [], tin := [], gin := [], res := .c (.ag [.e (.int .i64 (-1)), .e (.int .i64 (0)), .e (.int .i64 (1))]), post := [], tout := [], gout := [] }
def cl_l5Phase2 : List (Nat × Sig) := []
theorem run_l5Phase2 : run ⟨Tryd.prog, glb, cl_l5Phase2⟩ [] Tryd.f63 sg_l5Phase2 (Tryd.f63.body.getD .skip) = tr_l5Phase2 := by kernel_rfl
theorem om_l5Phase2 : ΩOK ⟨Tryd.prog, glb, cl_l5Phase2⟩ (specsOf Fs_l5Phase2) := ΩOK_nil
theorem con_l5Phase2 : ConOK Tryd.prog glb 63 sg_l5Phase2 F_l5Phase2.spec := conOK_tree om_l5Phase2 mixed Tryd.func63 (by kernel_rfl) run_l5Phase2

def sg_l5One : Sig := { args := [.ag [.e (.var 0), .e (.var 1), .e (.var 2)], .ag [.e (.var 3), .e (.var 4), .e (.var 5)]], pre := [], tin := [.int .i64, .int .i64, .int .i64, .int .i64, .int .i64, .int .i64], gin := [], res := .c (.ag [.e (.var 0), .e (.var 1), .e (.var 2), .e (.var 3), .e (.var 4), .e (.var 5), .e (.var 6), .e (.var 7), .e (.var 8), .e (.var 9), .e (.var 10), .e (.var 11)]), post := [], tout := [.int .i64, .int .i64, .int .i64, .int .i64, .int .i64, .int .i64, .int .i64, .int .i64, .int .i64, .int .i64, .int .i64, .int .i64], gout := [] }
def cl_l5One : List (Nat × Sig) := []
theorem run_l5One : run ⟨Tryd.prog, glb, cl_l5One⟩ [] Tryd.f62 sg_l5One (Tryd.f62.body.getD .skip) = tr_l5One := by kernel_rfl
theorem om_l5One : ΩOK ⟨Tryd.prog, glb, cl_l5One⟩ (specsOf Fs_l5One) := ΩOK_nil
theorem con_l5One : ConOK Tryd.prog glb 62 sg_l5One F_l5One.spec := conOK_tree om_l5One mixed Tryd.func62 (by kernel_rfl) run_l5One

def sg_l8Layer : Sig := { args := [.ag [.e (.var 0), .e (.var 1), .e (.var 2), .e (.var 3)]], pre := [], tin := [.int .i64, .int .i64, .int .i64, .int .i64], gin := [], res := .tu [.ag [.e (.var 0), .e (.var 1), .e (.var 2), .e (.var 3), .e (.var 4), .e (.var 5), .e (.var 6), .e (.var 7), .e (.var 8), .e (.var 9), .e (.var 10), .e (.var 11)], .s (.e (.var 12))], post := [], tout := [.int .i64, .int .i64, .int .i64, .int .i64, .int .i64, .int .i64, .int .i64, .int .i64, .int .i64, .int .i64, .int .i64, .int .i64, .bool], gout := [] }
def cl_l8Layer : List (Nat × Sig) := [(63, sg_l5Phase0), (63, sg_l5Phase2), (62, sg_l5One), (40, sg_sFracOver), (59, sg_sFracTimes), (92, sg_l5Four)]
theorem run_l8Layer : run ⟨Tryd.prog, glb, cl_l8Layer⟩ [] Tryd.f65 sg_l8Layer (Tryd.f65.body.getD .skip) = tr_l8Layer := by kernel_rfl
theorem om_l8Layer : ΩOK ⟨Tryd.prog, glb, cl_l8Layer⟩ (specsOf Fs_l8Layer) := (ΩOK_cons con_l5Phase0 Tryd.call63 (ΩOK_cons con_l5Phase2 Tryd.call63 (ΩOK_cons con_l5One Tryd.call62 (ΩOK_cons cong_sFracOver Tryd.call40 (ΩOK_cons cong_sFracTimes Tryd.call59 (ΩOK_cons cong_l5Four Tryd.call92 ΩOK_nil))))))
theorem con_l8Layer : ConOK Tryd.prog glb 65 sg_l8Layer F_l8Layer.spec := conOK_tree om_l8Layer mixed Tryd.func65 (by kernel_rfl) run_l8Layer
theorem cong_l8Layer : ConOK Tryd.prog glb 65 sg_l8Layer G_l8Layer.spec := con_l8Layer.as as_l8Layer

def sg_iFilmMat : Sig := { args := [.s (.e (.var 0))], pre := [], tin := [.sl, .row .i64 4], gin := [(0, 1, 4)], res := .tu [.ag [.e (.var 0), .e (.var 1), .e (.var 2), .e (.var 3), .e (.var 4), .e (.var 5), .e (.var 6), .e (.var 7), .e (.var 8), .e (.var 9), .e (.var 10), .e (.var 11)], .s (.e (.var 12))], post := [], tout := [.int .i64, .int .i64, .int .i64, .int .i64, .int .i64, .int .i64, .int .i64, .int .i64, .int .i64, .int .i64, .int .i64, .int .i64, .bool], gout := [] }
def cl_iFilmMat : List (Nat × Sig) := [(50, sg_iFilmValid), (69, sg_layerMat), (70, sg_iMatTimes)]
theorem run_iFilmMat : run ⟨Tryd.prog, glb, cl_iFilmMat⟩ [(0, ⟨[(18, .int .i64)], [(1, 0, .int .i64), (1, 1, .int .i64), (1, 2, .int .i64), (1, 3, .int .i64), (1, 4, .int .i64), (1, 5, .int .i64), (1, 6, .int .i64), (1, 7, .int .i64), (1, 8, .int .i64), (1, 9, .int .i64), (1, 10, .int .i64), (1, 11, .int .i64)], none⟩)] Tryd.f35 sg_iFilmMat (Tryd.f35.body.getD .skip) = tr_iFilmMat := by kernel_rfl
theorem om_iFilmMat : ΩOK ⟨Tryd.prog, glb, cl_iFilmMat⟩ (specsOf Fs_iFilmMat) := (ΩOK_cons con_iFilmValid Tryd.call50 (ΩOK_cons cong_layerMat Tryd.call69 (ΩOK_cons cong_iMatTimes Tryd.call70 ΩOK_nil)))
theorem con_iFilmMat : ConOK Tryd.prog glb 35 sg_iFilmMat F_iFilmMat.spec := conOK_of om_iFilmMat mixed Tryd.func35 (by kernel_rfl) run_iFilmMat (fun ins K ht h => sat_iFilmMat Tryd.prog ins K ht h.1 h.2)

def sg_sFilmMat : Sig := { args := [.s (.e (.var 0))], pre := [], tin := [.sl, .row .i64 4], gin := [(0, 1, 4)], res := .tu [.ag [.e (.var 0), .e (.var 1), .e (.var 2), .e (.var 3), .e (.var 4), .e (.var 5), .e (.var 6), .e (.var 7), .e (.var 8), .e (.var 9), .e (.var 10), .e (.var 11)], .s (.e (.var 12))], post := [], tout := [.int .i64, .int .i64, .int .i64, .int .i64, .int .i64, .int .i64, .int .i64, .int .i64, .int .i64, .int .i64, .int .i64, .int .i64, .bool], gout := [] }
def cl_sFilmMat : List (Nat × Sig) := [(64, sg_sFilmValid), (63, sg_l5Phase0), (62, sg_l5One), (65, sg_l8Layer), (66, sg_sMatTimes)]
theorem run_sFilmMat : run ⟨Tryd.prog, glb, cl_sFilmMat⟩ [(0, ⟨[(5, .int .i64)], [(1, 0, .int .i64), (1, 1, .int .i64), (1, 2, .int .i64), (1, 3, .int .i64), (1, 4, .int .i64), (1, 5, .int .i64), (1, 6, .int .i64), (1, 7, .int .i64), (1, 8, .int .i64), (1, 9, .int .i64), (1, 10, .int .i64), (1, 11, .int .i64)], none⟩)] Tryd.f32 sg_sFilmMat (Tryd.f32.body.getD .skip) = tr_sFilmMat := by kernel_rfl
theorem om_sFilmMat : ΩOK ⟨Tryd.prog, glb, cl_sFilmMat⟩ (specsOf Fs_sFilmMat) := (ΩOK_cons con_sFilmValid Tryd.call64 (ΩOK_cons con_l5Phase0 Tryd.call63 (ΩOK_cons con_l5One Tryd.call62 (ΩOK_cons cong_l8Layer Tryd.call65 (ΩOK_cons cong_sMatTimes Tryd.call66 ΩOK_nil)))))
theorem con_sFilmMat : ConOK Tryd.prog glb 32 sg_sFilmMat F_sFilmMat.spec := conOK_of om_sFilmMat mixed Tryd.func32 (by kernel_rfl) run_sFilmMat (fun ins K ht h => sat_sFilmMat Tryd.prog ins K ht h.1 h.2)

def sg_mrow0 : Sig := { args := [.s (.e (.int .i64 (0))), .s (.p (.own 0) 0), .s (.p (.own 1) 0), .s (.p (.own 2) 0)], pre := [⟨[.p (.own 3) 0], 62⟩, ⟨[.e (.var 0), .e (.var 1), .e (.var 2), .e (.var 3), .e (.var 4), .e (.var 5), .e (.var 6), .e (.var 7), .e (.var 8), .e (.var 9), .e (.var 10), .e (.var 11)], 52⟩, ⟨[.e (.var 12), .e (.var 13), .e (.var 14), .e (.var 15), .e (.var 16), .e (.var 17)], 85⟩, ⟨[.e (.var 18)], 64⟩], tin := [.int .i64, .int .i64, .int .i64, .int .i64, .int .i64, .int .i64, .int .i64, .int .i64, .int .i64, .int .i64, .int .i64, .int .i64, .int .i64, .int .i64, .int .i64, .int .i64, .int .i64, .int .i64, .bool], gin := [], res := .c (.ag [.e (.var 0), .e (.var 1), .e (.var 2)]), post := [⟨[.p (.own 3) 0], 62⟩, ⟨[.e (.var 3), .e (.var 4), .e (.var 5), .e (.var 6), .e (.var 7), .e (.var 8), .e (.var 9), .e (.var 10), .e (.var 11), .e (.var 12), .e (.var 13), .e (.var 14)], 52⟩, ⟨[.e (.var 15), .e (.var 16), .e (.var 17), .e (.var 18), .e (.var 19), .e (.var 20)], 85⟩, ⟨[.e (.var 21)], 64⟩], tout := [.int .i64, .int .i64, .int .i64, .int .i64, .int .i64, .int .i64, .int .i64, .int .i64, .int .i64, .int .i64, .int .i64, .int .i64, .int .i64, .int .i64, .int .i64, .int .i64, .int .i64, .int .i64, .int .i64, .int .i64, .int .i64, .bool], gout := [] }
def cl_mrow0 : List (Nat × Sig) := [(45, sg_times), (79, sg_add)]
theorem run_mrow0 : run ⟨Tryd.prog, glb, cl_mrow0⟩ [] Tryd.f101 sg_mrow0 (Tryd.f101.body.getD .skip) = tr_mrow0 := by kernel_rfl
theorem om_mrow0 : ΩOK ⟨Tryd.prog, glb, cl_mrow0⟩ (specsOf Fs_mrow0) := (ΩOK_cons cong_times Tryd.call45 (ΩOK_cons cong_add Tryd.call79 ΩOK_nil))
theorem con_mrow0 : ConOK Tryd.prog glb 101 sg_mrow0 F_mrow0.spec := conOK_tree om_mrow0 mixed Tryd.func101 (by kernel_rfl) run_mrow0
theorem cong_mrow0 : ConOK Tryd.prog glb 101 sg_mrow0 G_mrow0.spec := con_mrow0.as as_mrow0

def sg_mrow1 : Sig := { args := [.s (.e (.int .i64 (1))), .s (.p (.own 0) 0), .s (.p (.own 1) 0), .s (.p (.own 2) 0)], pre := [⟨[.p (.own 3) 0], 62⟩, ⟨[.e (.var 0), .e (.var 1), .e (.var 2), .e (.var 3), .e (.var 4), .e (.var 5), .e (.var 6), .e (.var 7), .e (.var 8), .e (.var 9), .e (.var 10), .e (.var 11)], 52⟩, ⟨[.e (.var 12), .e (.var 13), .e (.var 14), .e (.var 15), .e (.var 16), .e (.var 17)], 85⟩, ⟨[.e (.var 18)], 64⟩], tin := [.int .i64, .int .i64, .int .i64, .int .i64, .int .i64, .int .i64, .int .i64, .int .i64, .int .i64, .int .i64, .int .i64, .int .i64, .int .i64, .int .i64, .int .i64, .int .i64, .int .i64, .int .i64, .bool], gin := [], res := .c (.ag [.e (.var 0), .e (.var 1), .e (.var 2)]), post := [⟨[.p (.own 3) 0], 62⟩, ⟨[.e (.var 3), .e (.var 4), .e (.var 5), .e (.var 6), .e (.var 7), .e (.var 8), .e (.var 9), .e (.var 10), .e (.var 11), .e (.var 12), .e (.var 13), .e (.var 14)], 52⟩, ⟨[.e (.var 15), .e (.var 16), .e (.var 17), .e (.var 18), .e (.var 19), .e (.var 20)], 85⟩, ⟨[.e (.var 21)], 64⟩], tout := [.int .i64, .int .i64, .int .i64, .int .i64, .int .i64, .int .i64, .int .i64, .int .i64, .int .i64, .int .i64, .int .i64, .int .i64, .int .i64, .int .i64, .int .i64, .int .i64, .int .i64, .int .i64, .int .i64, .int .i64, .int .i64, .bool], gout := [] }
def cl_mrow1 : List (Nat × Sig) := [(45, sg_times), (79, sg_add)]
theorem run_mrow1 : run ⟨Tryd.prog, glb, cl_mrow1⟩ [] Tryd.f101 sg_mrow1 (Tryd.f101.body.getD .skip) = tr_mrow1 := by kernel_rfl
theorem om_mrow1 : ΩOK ⟨Tryd.prog, glb, cl_mrow1⟩ (specsOf Fs_mrow1) := (ΩOK_cons cong_times Tryd.call45 (ΩOK_cons cong_add Tryd.call79 ΩOK_nil))
theorem con_mrow1 : ConOK Tryd.prog glb 101 sg_mrow1 F_mrow1.spec := conOK_tree om_mrow1 mixed Tryd.func101 (by kernel_rfl) run_mrow1
theorem cong_mrow1 : ConOK Tryd.prog glb 101 sg_mrow1 G_mrow1.spec := con_mrow1.as as_mrow1

def sg_gotJones : Sig := { args := [.s (.p (.own 0) 0), .ag [.e (.var 0), .e (.var 1), .e (.var 2), .e (.var 3), .e (.var 4), .e (.var 5)]], pre := [⟨[.e (.var 6)], 64⟩], tin := [.int .i64, .int .i64, .int .i64, .int .i64, .int .i64, .int .i64, .bool], gin := [], res := .tu [.ag [.e (.var 0), .e (.var 1), .e (.var 2), .e (.var 3), .e (.var 4), .e (.var 5)], .s (.e (.var 6))], post := [⟨[.e (.var 7)], 64⟩], tout := [.int .i64, .int .i64, .int .i64, .int .i64, .int .i64, .int .i64, .bool, .bool], gout := [] }
def cl_gotJones : List (Nat × Sig) := []
theorem run_gotJones : run ⟨Tryd.prog, glb, cl_gotJones⟩ [] Tryd.f102 sg_gotJones (Tryd.f102.body.getD .skip) = tr_gotJones := by kernel_rfl
theorem om_gotJones : ΩOK ⟨Tryd.prog, glb, cl_gotJones⟩ (specsOf Fs_gotJones) := ΩOK_nil
theorem con_gotJones : ConOK Tryd.prog glb 102 sg_gotJones F_gotJones.spec := conOK_tree om_gotJones mixed Tryd.func102 (by kernel_rfl) run_gotJones
theorem cong_gotJones : ConOK Tryd.prog glb 102 sg_gotJones G_gotJones.spec := con_gotJones.as as_gotJones

def sg_gotFrac : Sig := { args := [.s (.p (.own 0) 0), .ag [.e (.var 0), .e (.var 1), .e (.var 2)]], pre := [⟨[.e (.var 3)], 64⟩], tin := [.int .i64, .int .i64, .int .i64, .bool], gin := [], res := .tu [.ag [.e (.var 0), .e (.var 1), .e (.var 2)], .s (.e (.var 3))], post := [⟨[.e (.var 4)], 64⟩], tout := [.int .i64, .int .i64, .int .i64, .bool, .bool], gout := [] }
def cl_gotFrac : List (Nat × Sig) := []
theorem run_gotFrac : run ⟨Tryd.prog, glb, cl_gotFrac⟩ [] Tryd.f43 sg_gotFrac (Tryd.f43.body.getD .skip) = tr_gotFrac := by kernel_rfl
theorem om_gotFrac : ΩOK ⟨Tryd.prog, glb, cl_gotFrac⟩ (specsOf Fs_gotFrac) := ΩOK_nil
theorem con_gotFrac : ConOK Tryd.prog glb 43 sg_gotFrac F_gotFrac.spec := conOK_tree om_gotFrac mixed Tryd.func43 (by kernel_rfl) run_gotFrac
theorem cong_gotFrac : ConOK Tryd.prog glb 43 sg_gotFrac G_gotFrac.spec := con_gotFrac.as as_gotFrac

def sg_iJonesValid : Sig := { args := [.ag [.e (.var 0), .e (.var 1), .e (.var 2), .e (.var 3), .e (.var 4), .e (.var 5)]], pre := [], tin := [.int .i64, .int .i64, .int .i64, .int .i64, .int .i64, .int .i64], gin := [], res := .c (.s (.e (.var 0))), post := [], tout := [.bool], gout := [] }
def cl_iJonesValid : List (Nat × Sig) := [(52, sg_iFracValid)]
theorem run_iJonesValid : run ⟨Tryd.prog, glb, cl_iJonesValid⟩ [] Tryd.f100 sg_iJonesValid (Tryd.f100.body.getD .skip) = tr_iJonesValid := by kernel_rfl
theorem om_iJonesValid : ΩOK ⟨Tryd.prog, glb, cl_iJonesValid⟩ (specsOf Fs_iJonesValid) := (ΩOK_cons cong_iFracValid Tryd.call52 ΩOK_nil)
theorem con_iJonesValid : ConOK Tryd.prog glb 100 sg_iJonesValid F_iJonesValid.spec := conOK_tree om_iJonesValid mixed Tryd.func100 (by kernel_rfl) run_iJonesValid
theorem cong_iJonesValid : ConOK Tryd.prog glb 100 sg_iJonesValid G_iJonesValid.spec := con_iJonesValid.as as_iJonesValid

def sg_iMatApply : Sig := { args := [.ag [.e (.var 0), .e (.var 1), .e (.var 2), .e (.var 3), .e (.var 4), .e (.var 5), .e (.var 6), .e (.var 7), .e (.var 8), .e (.var 9), .e (.var 10), .e (.var 11)], .ag [.e (.var 12), .e (.var 13), .e (.var 14), .e (.var 15), .e (.var 16), .e (.var 17)]], pre := [], tin := [.int .i64, .int .i64, .int .i64, .int .i64, .int .i64, .int .i64, .int .i64, .int .i64, .int .i64, .int .i64, .int .i64, .int .i64, .int .i64, .int .i64, .int .i64, .int .i64, .int .i64, .int .i64], gin := [], res := .tu [.ag [.e (.var 0), .e (.var 1), .e (.var 2), .e (.var 3), .e (.var 4), .e (.var 5)], .s (.e (.var 6))], post := [], tout := [.int .i64, .int .i64, .int .i64, .int .i64, .int .i64, .int .i64, .bool], gout := [] }
def cl_iMatApply : List (Nat × Sig) := [(71, sg_iMatValid), (100, sg_iJonesValid), (42, sg_need), (101, sg_mrow0), (101, sg_mrow1), (102, sg_gotJones)]
theorem run_iMatApply : run ⟨Tryd.prog, glb, cl_iMatApply⟩ [] Tryd.f78 sg_iMatApply (Tryd.f78.body.getD .skip) = tr_iMatApply := by kernel_rfl
theorem om_iMatApply : ΩOK ⟨Tryd.prog, glb, cl_iMatApply⟩ (specsOf Fs_iMatApply) := (ΩOK_cons cong_iMatValid Tryd.call71 (ΩOK_cons cong_iJonesValid Tryd.call100 (ΩOK_cons cong_need Tryd.call42 (ΩOK_cons cong_mrow0 Tryd.call101 (ΩOK_cons cong_mrow1 Tryd.call101 (ΩOK_cons cong_gotJones Tryd.call102 ΩOK_nil))))))
theorem con_iMatApply : ConOK Tryd.prog glb 78 sg_iMatApply F_iMatApply.spec := conOK_tree om_iMatApply mixed Tryd.func78 (by kernel_rfl) run_iMatApply
theorem cong_iMatApply : ConOK Tryd.prog glb 78 sg_iMatApply G_iMatApply.spec := con_iMatApply.as as_iMatApply

def sg_film : Sig := { args := [.s (.e (.var 0)), .ag [.e (.var 1), .e (.var 2), .e (.var 3)], .ag [.e (.var 4), .e (.var 5), .e (.var 6)]], pre := [], tin := [.sl, .int .i64, .int .i64, .int .i64, .int .i64, .int .i64, .int .i64, .row .i64 4], gin := [(0, 7, 4)], res := .tu [.ag [.e (.var 0), .e (.var 1), .e (.var 2)], .ag [.e (.var 3), .e (.var 4), .e (.var 5)], .ag [.e (.var 6), .e (.var 7), .e (.var 8)], .s (.e (.var 9))], post := [], tout := [.int .i64, .int .i64, .int .i64, .int .i64, .int .i64, .int .i64, .int .i64, .int .i64, .int .i64, .bool], gout := [] }
def cl_film : List (Nat × Sig) := [(35, sg_iFilmMat), (77, sg_indexOk), (78, sg_iMatApply), (42, sg_need), (45, sg_times), (79, sg_add)]
theorem run_film : run ⟨Tryd.prog, glb, cl_film⟩ [] Tryd.f41 sg_film (Tryd.f41.body.getD .skip) = tr_film := by kernel_rfl
theorem om_film : ΩOK ⟨Tryd.prog, glb, cl_film⟩ (specsOf Fs_film) := (ΩOK_cons con_iFilmMat Tryd.call35 (ΩOK_cons cong_indexOk Tryd.call77 (ΩOK_cons cong_iMatApply Tryd.call78 (ΩOK_cons cong_need Tryd.call42 (ΩOK_cons cong_times Tryd.call45 (ΩOK_cons cong_add Tryd.call79 ΩOK_nil))))))
theorem con_film : ConOK Tryd.prog glb 41 sg_film F_film.spec := conOK_tree om_film mixed Tryd.func41 (by kernel_rfl) run_film
theorem cong_film : ConOK Tryd.prog glb 41 sg_film G_film.spec := con_film.as as_film

def sg_iFilmReflected : Sig := { args := [.s (.e (.var 0)), .ag [.e (.var 1), .e (.var 2), .e (.var 3)], .ag [.e (.var 4), .e (.var 5), .e (.var 6)]], pre := [], tin := [.sl, .int .i64, .int .i64, .int .i64, .int .i64, .int .i64, .int .i64, .row .i64 4], gin := [(0, 7, 4)], res := .tu [.ag [.e (.var 0), .e (.var 1), .e (.var 2)], .s (.e (.var 3))], post := [], tout := [.int .i64, .int .i64, .int .i64, .bool], gout := [] }
def cl_iFilmReflected : List (Nat × Sig) := [(41, sg_film), (42, sg_need), (48, sg_less), (44, sg_over), (43, sg_gotFrac)]
theorem run_iFilmReflected : run ⟨Tryd.prog, glb, cl_iFilmReflected⟩ [] Tryd.f21 sg_iFilmReflected (Tryd.f21.body.getD .skip) = tr_iFilmReflected := by kernel_rfl
theorem om_iFilmReflected : ΩOK ⟨Tryd.prog, glb, cl_iFilmReflected⟩ (specsOf Fs_iFilmReflected) := (ΩOK_cons cong_film Tryd.call41 (ΩOK_cons cong_need Tryd.call42 (ΩOK_cons cong_less Tryd.call48 (ΩOK_cons cong_over Tryd.call44 (ΩOK_cons cong_gotFrac Tryd.call43 ΩOK_nil)))))
theorem con_iFilmReflected : ConOK Tryd.prog glb 21 sg_iFilmReflected F_iFilmReflected.spec := conOK_tree om_iFilmReflected mixed Tryd.func21 (by kernel_rfl) run_iFilmReflected
theorem cong_iFilmReflected : ConOK Tryd.prog glb 21 sg_iFilmReflected G_iFilmReflected.spec := con_iFilmReflected.as as_iFilmReflected

def sg_crossed : Sig := { args := [.s (.sl (.own 0) 0 4 4), .s (.sl (.own 1) 0 4 4)], pre := [⟨[.e (.var 0), .e (.var 1), .e (.var 2), .e (.var 3), .e (.var 4), .e (.var 5), .e (.var 6), .e (.var 7), .e (.var 8), .e (.var 9), .e (.var 10), .e (.var 11)], 52⟩, ⟨[.e (.var 12), .e (.var 13), .e (.var 14), .e (.var 15), .e (.var 16), .e (.var 17), .e (.var 18), .e (.var 19), .e (.var 20), .e (.var 21), .e (.var 22), .e (.var 23)], 52⟩], tin := [.int .i64, .int .i64, .int .i64, .int .i64, .int .i64, .int .i64, .int .i64, .int .i64, .int .i64, .int .i64, .int .i64, .int .i64, .int .i64, .int .i64, .int .i64, .int .i64, .int .i64, .int .i64, .int .i64, .int .i64, .int .i64, .int .i64, .int .i64, .int .i64], gin := [], res := .c (.s (.e (.var 0))), post := [⟨[.e (.var 1), .e (.var 2), .e (.var 3), .e (.var 4), .e (.var 5), .e (.var 6), .e (.var 7), .e (.var 8), .e (.var 9), .e (.var 10), .e (.var 11), .e (.var 12)], 52⟩, ⟨[.e (.var 13), .e (.var 14), .e (.var 15), .e (.var 16), .e (.var 17), .e (.var 18), .e (.var 19), .e (.var 20), .e (.var 21), .e (.var 22), .e (.var 23), .e (.var 24)], 52⟩], tout := [.bool, .int .i64, .int .i64, .int .i64, .int .i64, .int .i64, .int .i64, .int .i64, .int .i64, .int .i64, .int .i64, .int .i64, .int .i64, .int .i64, .int .i64, .int .i64, .int .i64, .int .i64, .int .i64, .int .i64, .int .i64, .int .i64, .int .i64, .int .i64, .int .i64], gout := [] }
def cl_crossed : List (Nat × Sig) := [(45, sg_times)]
theorem run_crossed : run ⟨Tryd.prog, glb, cl_crossed⟩ [] Tryd.f72 sg_crossed (Tryd.f72.body.getD .skip) = tr_crossed := by kernel_rfl
theorem om_crossed : ΩOK ⟨Tryd.prog, glb, cl_crossed⟩ (specsOf Fs_crossed) := (ΩOK_cons cong_times Tryd.call45 ΩOK_nil)
theorem con_crossed : ConOK Tryd.prog glb 72 sg_crossed F_crossed.spec := conOK_tree om_crossed mixed Tryd.func72 (by kernel_rfl) run_crossed
theorem cong_crossed : ConOK Tryd.prog glb 72 sg_crossed G_crossed.spec := con_crossed.as as_crossed

def sg_iMatAlike : Sig := { args := [.ag [.e (.var 0), .e (.var 1), .e (.var 2), .e (.var 3), .e (.var 4), .e (.var 5), .e (.var 6), .e (.var 7), .e (.var 8), .e (.var 9), .e (.var 10), .e (.var 11)], .ag [.e (.var 12), .e (.var 13), .e (.var 14), .e (.var 15), .e (.var 16), .e (.var 17), .e (.var 18), .e (.var 19), .e (.var 20), .e (.var 21), .e (.var 22), .e (.var 23)]], pre := [], tin := [.int .i64, .int .i64, .int .i64, .int .i64, .int .i64, .int .i64, .int .i64, .int .i64, .int .i64, .int .i64, .int .i64, .int .i64, .int .i64, .int .i64, .int .i64, .int .i64, .int .i64, .int .i64, .int .i64, .int .i64, .int .i64, .int .i64, .int .i64, .int .i64], gin := [], res := .c (.s (.e (.var 0))), post := [], tout := [.bool], gout := [] }
def cl_iMatAlike : List (Nat × Sig) := [(71, sg_iMatValid), (72, sg_crossed)]
theorem run_iMatAlike : run ⟨Tryd.prog, glb, cl_iMatAlike⟩ [] Tryd.f36 sg_iMatAlike (Tryd.f36.body.getD .skip) = tr_iMatAlike := by kernel_rfl
theorem om_iMatAlike : ΩOK ⟨Tryd.prog, glb, cl_iMatAlike⟩ (specsOf Fs_iMatAlike) := (ΩOK_cons cong_iMatValid Tryd.call71 (ΩOK_cons cong_crossed Tryd.call72 ΩOK_nil))
theorem con_iMatAlike : ConOK Tryd.prog glb 36 sg_iMatAlike F_iMatAlike.spec := conOK_tree om_iMatAlike mixed Tryd.func36 (by kernel_rfl) run_iMatAlike
theorem cong_iMatAlike : ConOK Tryd.prog glb 36 sg_iMatAlike G_iMatAlike.spec := con_iMatAlike.as as_iMatAlike

def sg_l5Dark : Sig := { args := [.ag [.e (.var 0), .e (.var 1), .e (.var 2), .e (.var 3), .e (.var 4), .e (.var 5), .e (.var 6), .e (.var 7), .e (.var 8), .e (.var 9), .e (.var 10), .e (.var 11)]], pre := [], tin := [.int .i64, .int .i64, .int .i64, .int .i64, .int .i64, .int .i64, .int .i64, .int .i64, .int .i64, .int .i64, .int .i64, .int .i64], gin := [], res := .c (.s (.e (.var 0))), post := [], tout := [.bool], gout := [] }
def cl_l5Dark : List (Nat × Sig) := []
theorem run_l5Dark : run ⟨Tryd.prog, glb, cl_l5Dark⟩ [] Tryd.f68 sg_l5Dark (Tryd.f68.body.getD .skip) = tr_l5Dark := by kernel_rfl
theorem om_l5Dark : ΩOK ⟨Tryd.prog, glb, cl_l5Dark⟩ (specsOf Fs_l5Dark) := ΩOK_nil
theorem con_l5Dark : ConOK Tryd.prog glb 68 sg_l5Dark F_l5Dark.spec := conOK_tree om_l5Dark mixed Tryd.func68 (by kernel_rfl) run_l5Dark
theorem cong_l5Dark : ConOK Tryd.prog glb 68 sg_l5Dark G_l5Dark.spec := con_l5Dark.as as_l5Dark

def sg_sMatAlike : Sig := { args := [.ag [.e (.var 0), .e (.var 1), .e (.var 2), .e (.var 3), .e (.var 4), .e (.var 5), .e (.var 6), .e (.var 7), .e (.var 8), .e (.var 9), .e (.var 10), .e (.var 11)], .ag [.e (.var 12), .e (.var 13), .e (.var 14), .e (.var 15), .e (.var 16), .e (.var 17), .e (.var 18), .e (.var 19), .e (.var 20), .e (.var 21), .e (.var 22), .e (.var 23)]], pre := [], tin := [.int .i64, .int .i64, .int .i64, .int .i64, .int .i64, .int .i64, .int .i64, .int .i64, .int .i64, .int .i64, .int .i64, .int .i64, .int .i64, .int .i64, .int .i64, .int .i64, .int .i64, .int .i64, .int .i64, .int .i64, .int .i64, .int .i64, .int .i64, .int .i64], gin := [], res := .c (.s (.e (.var 0))), post := [], tout := [.bool], gout := [] }
def cl_sMatAlike : List (Nat × Sig) := [(67, sg_sMatValid), (68, sg_l5Dark), (59, sg_sFracTimes)]
theorem run_sMatAlike : run ⟨Tryd.prog, glb, cl_sMatAlike⟩ [] Tryd.f33 sg_sMatAlike (Tryd.f33.body.getD .skip) = tr_sMatAlike := by kernel_rfl
theorem om_sMatAlike : ΩOK ⟨Tryd.prog, glb, cl_sMatAlike⟩ (specsOf Fs_sMatAlike) := (ΩOK_cons cong_sMatValid Tryd.call67 (ΩOK_cons cong_l5Dark Tryd.call68 (ΩOK_cons cong_sFracTimes Tryd.call59 ΩOK_nil)))
theorem con_sMatAlike : ConOK Tryd.prog glb 33 sg_sMatAlike F_sMatAlike.spec := conOK_tree om_sMatAlike mixed Tryd.func33 (by kernel_rfl) run_sMatAlike
theorem cong_sMatAlike : ConOK Tryd.prog glb 33 sg_sMatAlike G_sMatAlike.spec := con_sMatAlike.as as_sMatAlike

def sg_iFilmSame : Sig := { args := [.s (.e (.var 0)), .s (.e (.var 1))], pre := [], tin := [.sl, .sl, .row .i64 4, .row .i64 4], gin := [(0, 2, 4), (1, 3, 4)], res := .c (.s (.e (.var 0))), post := [], tout := [.bool], gout := [] }
def cl_iFilmSame : List (Nat × Sig) := [(35, sg_iFilmMat), (36, sg_iMatAlike)]
theorem run_iFilmSame : run ⟨Tryd.prog, glb, cl_iFilmSame⟩ [] Tryd.f14 sg_iFilmSame (Tryd.f14.body.getD .skip) = tr_iFilmSame := by kernel_rfl
theorem om_iFilmSame : ΩOK ⟨Tryd.prog, glb, cl_iFilmSame⟩ (specsOf Fs_iFilmSame) := (ΩOK_cons con_iFilmMat Tryd.call35 (ΩOK_cons cong_iMatAlike Tryd.call36 ΩOK_nil))
theorem con_iFilmSame : ConOK Tryd.prog glb 14 sg_iFilmSame F_iFilmSame.spec := conOK_tree om_iFilmSame mixed Tryd.func14 (by kernel_rfl) run_iFilmSame
theorem cong_iFilmSame : ConOK Tryd.prog glb 14 sg_iFilmSame G_iFilmSame.spec := con_iFilmSame.as as_iFilmSame

def sg_sFilmSame : Sig := { args := [.s (.e (.var 0)), .s (.e (.var 1))], pre := [], tin := [.sl, .sl, .row .i64 4, .row .i64 4], gin := [(0, 2, 4), (1, 3, 4)], res := .c (.s (.e (.var 0))), post := [], tout := [.bool], gout := [] }
def cl_sFilmSame : List (Nat × Sig) := [(32, sg_sFilmMat), (33, sg_sMatAlike)]
theorem run_sFilmSame : run ⟨Tryd.prog, glb, cl_sFilmSame⟩ [] Tryd.f12 sg_sFilmSame (Tryd.f12.body.getD .skip) = tr_sFilmSame := by kernel_rfl
theorem om_sFilmSame : ΩOK ⟨Tryd.prog, glb, cl_sFilmSame⟩ (specsOf Fs_sFilmSame) := (ΩOK_cons con_sFilmMat Tryd.call32 (ΩOK_cons cong_sMatAlike Tryd.call33 ΩOK_nil))
theorem con_sFilmSame : ConOK Tryd.prog glb 12 sg_sFilmSame F_sFilmSame.spec := conOK_tree om_sFilmSame mixed Tryd.func12 (by kernel_rfl) run_sFilmSame
theorem cong_sFilmSame : ConOK Tryd.prog glb 12 sg_sFilmSame G_sFilmSame.spec := con_sFilmSame.as as_sFilmSame

def sg_pick : Sig := { args := [.s (.p (.own 0) 0), .s (.e (.var 0))], pre := [⟨[.e (.var 1), .e (.var 2)], 94⟩], tin := [.int .i64, .sl, .int .i64, .row .u8 1], gin := [(1, 3, 1)], res := .c (.s (.e (.var 0))), post := [⟨[.e (.var 1), .e (.var 2)], 94⟩], tout := [.int .i64, .sl, .int .i64], gout := [] }
def cl_pick : List (Nat × Sig) := []
theorem run_pick : run ⟨Tryd.prog, glb, cl_pick⟩ [] Tryd.f56 sg_pick (Tryd.f56.body.getD .skip) = tr_pick := by kernel_rfl
theorem om_pick : ΩOK ⟨Tryd.prog, glb, cl_pick⟩ (specsOf Fs_pick) := ΩOK_nil
theorem con_pick : ConOK Tryd.prog glb 56 sg_pick F_pick.spec := conOK_tree om_pick mixed Tryd.func56 (by kernel_rfl) run_pick

def sg_pickC : Sig := { args := [.s (.p (.own 0) 0), .s (.e (.var 0))], pre := [⟨[.e (.var 1), .e (.var 2)], 94⟩], tin := [.int .i64, .sl, .int .i64], gin := [], res := .c (.s (.e (.var 0))), post := [⟨[.e (.var 1), .e (.var 2)], 94⟩], tout := [.int .i64, .sl, .int .i64], gout := [] }
theorem con_pickC {cb : CodeB} (hk : CodeOk cb) (hG : Known cb (glb ++ cb.tail)) : ConOK Tryd.prog (glb ++ cb.tail) 56 sg_pickC (G_pick cb).spec := conOK_ghost (t := 94) hk hG con_pick.more (ghost_pick hk)


def sg_openC : Sig := { args := [.s (.e (.var 0))], pre := [], tin := [.sl], gin := [], res := .c (.s (.p (.own 0) 0)), post := [⟨[.e (.var 0), .e (.var 1)], 94⟩], tout := [.sl, .int .i64], gout := [] }
set_option maxHeartbeats 800000 in
set_option maxRecDepth 1000000 in
theorem open_short (a : Option Addr) (len cap : Nat) (w : World) (hl : len ≤ 2000) :
    Calls Tryd.prog 54 #[.slice a len cap] w fun e w' => e = .returned (.pointer (some ⟨w.heap.size, 0, none⟩)) ∧ w' = w.alloc (.cells #[.slice a len cap, .int .i64 0] 94) := by
  go_enter Tryd.func54, Tryd.ntmps54
  go_wp2
  go_ret
  exact ⟨rfl, rfl⟩
set_option maxHeartbeats 800000 in
set_option maxRecDepth 1000000 in
theorem open_long (a : Addr) (len cap : Nat) (w : World) (hl : ¬ len ≤ 2000) (hc : len ≤ cap) (hm : len ≤ 1048576) :
    Calls Tryd.prog 54 #[.slice (some a) len cap] w fun e w' => e = .returned (.pointer (some ⟨w.heap.size, 0, none⟩)) ∧ w' = w.alloc (.cells #[.slice (some a) 2000 cap, .int .i64 0] 94) := by
  go_enter Tryd.func54, Tryd.ntmps54
  go_wp2
  go_ret
  exact ⟨rfl, rfl⟩
theorem con_openC {cb : CodeB} (_ : CodeOk cb) (_ : Known cb (glb ++ cb.tail)) : ConOK Tryd.prog (glb ++ cb.tail) 54 sg_openC (G_open cb).spec := conOK_open (t := 94) open_short open_long


def sg_l91Frac : Sig := { args := [.s (.p (.own 0) 0)], pre := [⟨[.e (.var 0), .e (.var 1)], 94⟩], tin := [.sl, .int .i64], gin := [], res := .c (.ag [.e (.var 0), .e (.var 1), .e (.var 2)]), post := [⟨[.e (.var 3), .e (.var 4)], 94⟩], tout := [.int .i64, .int .i64, .int .i64, .sl, .int .i64], gout := [] }
def cl_l91Frac : List (Nat × Sig) := [(56, sg_pickC), (89, sg_l2Low)]
theorem run_l91Frac : (fun H : List (Nat × List Sc) => run ⟨Tryd.prog, glb ++ H, cl_l91Frac⟩ [] Tryd.f103 sg_l91Frac (Tryd.f103.body.getD .skip)) = fun _ => tr_l91Frac := by kernel_rfl
theorem om_l91Frac {cb : CodeB} (hk : CodeOk cb) (hG : Known cb (glb ++ cb.tail)) : ΩOK ⟨Tryd.prog, glb ++ cb.tail, cl_l91Frac⟩ (specsOf (Fs_l91Frac cb)) := (ΩOK_cons (con_pickC hk hG) Tryd.call56 (ΩOK_cons cong_l2Low.more Tryd.call89 ΩOK_nil))
theorem con_l91Frac {cb : CodeB} (hk : CodeOk cb) (hG : Known cb (glb ++ cb.tail)) : ConOK Tryd.prog (glb ++ cb.tail) 103 sg_l91Frac (F_l91Frac cb).spec := conOK_tree (om_l91Frac hk hG) mixed Tryd.func103 (by kernel_rfl) (congrFun run_l91Frac cb.tail)

def sg_l92Index : Sig := { args := [.s (.p (.own 0) 0)], pre := [⟨[.e (.var 0), .e (.var 1)], 94⟩], tin := [.sl, .int .i64], gin := [], res := .c (.ag [.e (.var 0), .e (.var 1), .e (.var 2)]), post := [⟨[.e (.var 3), .e (.var 4)], 94⟩], tout := [.int .i64, .int .i64, .int .i64, .sl, .int .i64], gout := [] }
def cl_l92Index : List (Nat × Sig) := [(56, sg_pickC), (103, sg_l91Frac), (89, sg_l2Low)]
theorem run_l92Index : (fun H : List (Nat × List Sc) => run ⟨Tryd.prog, glb ++ H, cl_l92Index⟩ [] Tryd.f83 sg_l92Index (Tryd.f83.body.getD .skip)) = fun _ => tr_l92Index := by kernel_rfl
theorem om_l92Index {cb : CodeB} (hk : CodeOk cb) (hG : Known cb (glb ++ cb.tail)) : ΩOK ⟨Tryd.prog, glb ++ cb.tail, cl_l92Index⟩ (specsOf (Fs_l92Index cb)) := (ΩOK_cons (con_pickC hk hG) Tryd.call56 (ΩOK_cons (con_l91Frac hk hG) Tryd.call103 (ΩOK_cons cong_l2Low.more Tryd.call89 ΩOK_nil)))
theorem con_l92Index {cb : CodeB} (hk : CodeOk cb) (hG : Known cb (glb ++ cb.tail)) : ConOK Tryd.prog (glb ++ cb.tail) 83 sg_l92Index (F_l92Index cb).spec := conOK_tree (om_l92Index hk hG) mixed Tryd.func83 (by kernel_rfl) (congrFun run_l92Index cb.tail)

def sg_l92Film : Sig := { args := [.s (.p (.own 0) 0)], pre := [⟨[.e (.var 0), .e (.var 1)], 94⟩], tin := [.sl, .int .i64], gin := [], res := .c (.s (.e (.var 0))), post := [⟨[.e (.var 1), .e (.var 2)], 94⟩], tout := [.sl, .sl, .int .i64, .row .i64 4], gout := [(0, 3, 4)] }
def cl_l92Film : List (Nat × Sig) := [(56, sg_pickC), (83, sg_l92Index)]
theorem run_l92Film : (fun H : List (Nat × List Sc) => run ⟨Tryd.prog, glb ++ H, cl_l92Film⟩ [(0, ⟨[(3, .sl), (5, .int .i64)], [(0, 0, .sl), (0, 1, .int .i64)], some (0, .i64, 4, 40)⟩)] Tryd.f55 sg_l92Film (Tryd.f55.body.getD .skip)) = fun _ => tr_l92Film := by kernel_rfl
theorem om_l92Film {cb : CodeB} (hk : CodeOk cb) (hG : Known cb (glb ++ cb.tail)) : ΩOK ⟨Tryd.prog, glb ++ cb.tail, cl_l92Film⟩ (Ss_l92Film cb) := (ΩOK_consS (con_pickC hk hG) Tryd.call56 (ΩOK_consS (con_l92Index hk hG) Tryd.call83 ΩOK_nilS))
theorem con_l92Film {cb : CodeB} (hk : CodeOk cb) (hG : Known cb (glb ++ cb.tail)) : ConOK Tryd.prog (glb ++ cb.tail) 55 sg_l92Film (SP_l92Film cb) := conOK_of (om_l92Film hk hG) mixed Tryd.func55 (by kernel_rfl) (congrFun run_l92Film cb.tail) (fun ins K ht h => sat_l92Film Tryd.prog cb hk ins K ht h)

def sg_DrawFilmSame : Sig := { args := [.s (.e (.var 0))], pre := [], tin := [.sl], gin := [], res := .tu [.s (.e (.var 0)), .s (.e (.var 1))], post := [], tout := [.sl, .sl, .row .i64 4, .row .i64 4], gout := [(0, 2, 4), (1, 3, 4)] }
def cl_DrawFilmSame : List (Nat × Sig) := [(54, sg_openC), (55, sg_l92Film), (56, sg_pickC)]
theorem run_DrawFilmSame : (fun H : List (Nat × List Sc) => run ⟨Tryd.prog, glb ++ H, cl_DrawFilmSame⟩ [] Tryd.f26 sg_DrawFilmSame (Tryd.f26.body.getD .skip)) = fun _ => tr_DrawFilmSame := by kernel_rfl
theorem om_DrawFilmSame {cb : CodeB} (hk : CodeOk cb) (hG : Known cb (glb ++ cb.tail)) : ΩOK ⟨Tryd.prog, glb ++ cb.tail, cl_DrawFilmSame⟩ (Ss_DrawFilmSame cb) := (ΩOK_consS (con_openC hk hG) Tryd.call54 (ΩOK_consS (con_l92Film hk hG) Tryd.call55 (ΩOK_consS (con_pickC hk hG) Tryd.call56 ΩOK_nilS)))
theorem con_DrawFilmSame {cb : CodeB} (hk : CodeOk cb) (hG : Known cb (glb ++ cb.tail)) : ConOK Tryd.prog (glb ++ cb.tail) 26 sg_DrawFilmSame (SP_DrawFilmSame cb) := conOK_of (om_DrawFilmSame hk hG) mixed Tryd.func26 (by kernel_rfl) (congrFun run_DrawFilmSame cb.tail) (fun ins K ht h => sat_DrawFilmSame Tryd.prog cb hk ins K ht h)

def sg_FnFilmSame : Sig := { args := [.s (.e (.var 0))], pre := [], tin := [.sl], gin := [], res := .c (.s (.e (.var 0))), post := [], tout := [.bool], gout := [] }
def cl_FnFilmSame : List (Nat × Sig) := [(26, sg_DrawFilmSame), (14, sg_iFilmSame), (12, sg_sFilmSame), (21, sg_iFilmReflected)]
theorem run_FnFilmSame : (fun H : List (Nat × List Sc) => run ⟨Tryd.prog, glb ++ H, cl_FnFilmSame⟩ [] Tryd.f8 sg_FnFilmSame (Tryd.f8.body.getD .skip)) = fun _ => tr_FnFilmSame := by kernel_rfl
theorem om_FnFilmSame {cb : CodeB} (hk : CodeOk cb) (hG : Known cb (glb ++ cb.tail)) : ΩOK ⟨Tryd.prog, glb ++ cb.tail, cl_FnFilmSame⟩ (Ss_FnFilmSame cb) := (ΩOK_consS (con_DrawFilmSame hk hG) Tryd.call26 (ΩOK_consS cong_iFilmSame.more Tryd.call14 (ΩOK_consS cong_sFilmSame.more Tryd.call12 (ΩOK_consS cong_iFilmReflected.more Tryd.call21 ΩOK_nilS))))
theorem con_FnFilmSame {cb : CodeB} (hk : CodeOk cb) (hG : Known cb (glb ++ cb.tail)) : ConOK Tryd.prog (glb ++ cb.tail) 8 sg_FnFilmSame (lawF cb).spec := conOK_of (om_FnFilmSame hk hG) mixed Tryd.func8 (by kernel_rfl) (congrFun run_FnFilmSame cb.tail) (fun ins K ht h => sat_FnFilmSame Tryd.prog cb hk ins K ht h.1 h.2)

end Go.Proofs.YtmciikkpfafncaaDoor

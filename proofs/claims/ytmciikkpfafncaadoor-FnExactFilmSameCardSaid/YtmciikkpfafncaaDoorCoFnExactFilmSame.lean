/- The contracts of the functions. -/
import Derived.Test.YtmciikkpfafncaaDoorChecked
import Derived.Test.YtmciikkpfafncaaDoorRkAFnExactFilmSame
import Derived.WalkKit
import Derived.Laws.OwnMore
import Derived.Deep.MidRow
namespace Go.Proofs.YtmciikkpfafncaaDoor
open Go Go.Sx Go.RowKit
set_option maxRecDepth 100000

def glb : List (Nat × List Sc) := [(1, [.e (.int .i64 (0)), .e (.int .i64 (0)), .e (.int .i64 (1))]), (3, [.e (.int .i64 (0)), .e (.int .i64 (1)), .e (.int .i64 (1))]), (0, [.e (.int .i64 (1)), .e (.int .i64 (0)), .e (.int .i64 (1)), .e (.int .i64 (0)), .e (.int .i64 (0)), .e (.int .i64 (1)), .e (.int .i64 (0)), .e (.int .i64 (0)), .e (.int .i64 (1)), .e (.int .i64 (1)), .e (.int .i64 (0)), .e (.int .i64 (1))])]
theorem mixed : Tryd.prog.follows .mixedOrders = true := by kernel_rfl

def sg_size : Sig := { args := [.s (.e (.var 0))], pre := [], tin := [.int .i64], gin := [], res := .c (.s (.e (.var 0))), post := [], tout := [.int .i64], gout := [] }
def cl_size : List (Nat × Sig) := []
theorem run_size : run ⟨Tryd.prog, glb, cl_size⟩ [] Tryd.f86 sg_size (Tryd.f86.body.getD .skip) = tr_size := by kernel_rfl
theorem om_size : ΩOK ⟨Tryd.prog, glb, cl_size⟩ (specsOf Fs_size) := ΩOK_nil
theorem con_size : ConOK Tryd.prog glb 86 sg_size F_size.spec := conOK_tree om_size mixed Tryd.func86 (by kernel_rfl) run_size

def sg_within : Sig := { args := [.s (.e (.var 0)), .s (.e (.var 1)), .s (.e (.var 2))], pre := [], tin := [.int .i64, .int .i64, .int .i64], gin := [], res := .c (.s (.e (.var 0))), post := [], tout := [.bool], gout := [] }
def cl_within : List (Nat × Sig) := []
theorem run_within : run ⟨Tryd.prog, glb, cl_within⟩ [] Tryd.f84 sg_within (Tryd.f84.body.getD .skip) = tr_within := by kernel_rfl
theorem om_within : ΩOK ⟨Tryd.prog, glb, cl_within⟩ (specsOf Fs_within) := ΩOK_nil
theorem con_within : ConOK Tryd.prog glb 84 sg_within F_within.spec := conOK_tree om_within mixed Tryd.func84 (by kernel_rfl) run_within
theorem cong_within : ConOK Tryd.prog glb 84 sg_within G_within.spec := con_within.as as_within

def sg_l6In : Sig := { args := [.s (.e (.var 0)), .s (.e (.var 1)), .s (.e (.var 2))], pre := [], tin := [.int .i64, .int .i64, .int .i64], gin := [], res := .c (.s (.e (.var 0))), post := [], tout := [.bool], gout := [] }
def cl_l6In : List (Nat × Sig) := []
theorem run_l6In : run ⟨Tryd.prog, glb, cl_l6In⟩ [] Tryd.f91 sg_l6In (Tryd.f91.body.getD .skip) = tr_l6In := by kernel_rfl
theorem om_l6In : ΩOK ⟨Tryd.prog, glb, cl_l6In⟩ (specsOf Fs_l6In) := ΩOK_nil
theorem con_l6In : ConOK Tryd.prog glb 91 sg_l6In F_l6In.spec := conOK_tree om_l6In mixed Tryd.func91 (by kernel_rfl) run_l6In
theorem cong_l6In : ConOK Tryd.prog glb 91 sg_l6In G_l6In.spec := con_l6In.as as_l6In

def sg_l2In : Sig := { args := [.s (.e (.var 0))], pre := [], tin := [.int .i64], gin := [], res := .c (.s (.e (.var 0))), post := [], tout := [.bool], gout := [] }
def cl_l2In : List (Nat × Sig) := [(91, sg_l6In)]
theorem run_l2In : run ⟨Tryd.prog, glb, cl_l2In⟩ [] Tryd.f97 sg_l2In (Tryd.f97.body.getD .skip) = tr_l2In := by kernel_rfl
theorem om_l2In : ΩOK ⟨Tryd.prog, glb, cl_l2In⟩ (specsOf Fs_l2In) := (ΩOK_cons cong_l6In Tryd.call91 ΩOK_nil)
theorem con_l2In : ConOK Tryd.prog glb 97 sg_l2In F_l2In.spec := conOK_tree om_l2In mixed Tryd.func97 (by kernel_rfl) run_l2In
theorem cong_l2In : ConOK Tryd.prog glb 97 sg_l2In G_l2In.spec := con_l2In.as as_l2In

def sg_divisor : Sig := { args := [.s (.e (.var 0)), .s (.e (.var 1))], pre := [], tin := [.int .i64, .int .i64], gin := [], res := .c (.s (.e (.var 0))), post := [], tout := [.int .i64], gout := [] }
def cl_divisor : List (Nat × Sig) := []
theorem run_divisor : run ⟨Tryd.prog, glb, cl_divisor⟩ [(0, ⟨[(0, .int .i64), (1, .int .i64)], []⟩)] Tryd.f85 sg_divisor (Tryd.f85.body.getD .skip) = tr_divisor := by kernel_rfl
theorem om_divisor : ΩOK ⟨Tryd.prog, glb, cl_divisor⟩ (specsOf Fs_divisor) := ΩOK_nil
theorem con_divisor : ConOK Tryd.prog glb 85 sg_divisor F_divisor.spec := conOK_of om_divisor mixed Tryd.func85 (by kernel_rfl) run_divisor (fun ins K ht h => sat_divisor Tryd.prog ins K ht h.1 h.2)

def sg_l2Gcd : Sig := { args := [.s (.e (.var 0)), .s (.e (.var 1))], pre := [], tin := [.int .i64, .int .i64], gin := [], res := .c (.s (.e (.var 0))), post := [], tout := [.int .i64], gout := [] }
def cl_l2Gcd : List (Nat × Sig) := []
theorem run_l2Gcd : run ⟨Tryd.prog, glb, cl_l2Gcd⟩ [(0, ⟨[(0, .int .i64), (1, .int .i64)], []⟩)] Tryd.f98 sg_l2Gcd (Tryd.f98.body.getD .skip) = tr_l2Gcd := by kernel_rfl
theorem om_l2Gcd : ΩOK ⟨Tryd.prog, glb, cl_l2Gcd⟩ (specsOf Fs_l2Gcd) := ΩOK_nil
theorem con_l2Gcd : ConOK Tryd.prog glb 98 sg_l2Gcd F_l2Gcd.spec := conOK_of om_l2Gcd mixed Tryd.func98 (by kernel_rfl) run_l2Gcd (fun ins K ht h => sat_l2Gcd Tryd.prog ins K ht h.1 h.2)

def sg_lowest : Sig := { args := [.s (.e (.var 0)), .s (.e (.var 1)), .s (.e (.var 2))], pre := [], tin := [.int .i64, .int .i64, .int .i64], gin := [], res := .tu [.ag [.e (.var 0), .e (.var 1), .e (.var 2)], .s (.e (.var 3))], post := [], tout := [.int .i64, .int .i64, .int .i64, .bool], gout := [] }
def cl_lowest : List (Nat × Sig) := [(86, sg_size), (85, sg_divisor), (84, sg_within)]
theorem run_lowest : run ⟨Tryd.prog, glb, cl_lowest⟩ [] Tryd.f53 sg_lowest (Tryd.f53.body.getD .skip) = tr_lowest := by kernel_rfl
theorem om_lowest : ΩOK ⟨Tryd.prog, glb, cl_lowest⟩ (specsOf Fs_lowest) := (ΩOK_cons con_size Tryd.call86 (ΩOK_cons con_divisor Tryd.call85 (ΩOK_cons cong_within Tryd.call84 ΩOK_nil)))
theorem con_lowest : ConOK Tryd.prog glb 53 sg_lowest F_lowest.spec := conOK_tree om_lowest mixed Tryd.func53 (by kernel_rfl) run_lowest
theorem cong_lowest : ConOK Tryd.prog glb 53 sg_lowest G_lowest.spec := con_lowest.as as_lowest

def sg_sFracValid : Sig := { args := [.ag [.e (.var 0), .e (.var 1), .e (.var 2)]], pre := [], tin := [.int .i64, .int .i64, .int .i64], gin := [], res := .c (.s (.e (.var 0))), post := [], tout := [.bool], gout := [] }
def cl_sFracValid : List (Nat × Sig) := [(97, sg_l2In), (91, sg_l6In), (98, sg_l2Gcd)]
theorem run_sFracValid : run ⟨Tryd.prog, glb, cl_sFracValid⟩ [] Tryd.f73 sg_sFracValid (Tryd.f73.body.getD .skip) = tr_sFracValid := by kernel_rfl
theorem om_sFracValid : ΩOK ⟨Tryd.prog, glb, cl_sFracValid⟩ (specsOf Fs_sFracValid) := (ΩOK_cons cong_l2In Tryd.call97 (ΩOK_cons cong_l6In Tryd.call91 (ΩOK_cons con_l2Gcd Tryd.call98 ΩOK_nil)))
theorem con_sFracValid : ConOK Tryd.prog glb 73 sg_sFracValid F_sFracValid.spec := conOK_tree om_sFracValid mixed Tryd.func73 (by kernel_rfl) run_sFracValid
theorem cong_sFracValid : ConOK Tryd.prog glb 73 sg_sFracValid G_sFracValid.spec := con_sFracValid.as as_sFracValid

def sg_l2Low : Sig := { args := [.s (.e (.var 0)), .s (.e (.var 1)), .s (.e (.var 2))], pre := [], tin := [.int .i64, .int .i64, .int .i64], gin := [], res := .tu [.ag [.e (.var 0), .e (.var 1), .e (.var 2)], .s (.e (.var 3))], post := [], tout := [.int .i64, .int .i64, .int .i64, .bool], gout := [] }
def cl_l2Low : List (Nat × Sig) := [(98, sg_l2Gcd), (73, sg_sFracValid)]
theorem run_l2Low : run ⟨Tryd.prog, glb, cl_l2Low⟩ [] Tryd.f89 sg_l2Low (Tryd.f89.body.getD .skip) = tr_l2Low := by kernel_rfl
theorem om_l2Low : ΩOK ⟨Tryd.prog, glb, cl_l2Low⟩ (specsOf Fs_l2Low) := (ΩOK_cons con_l2Gcd Tryd.call98 (ΩOK_cons cong_sFracValid Tryd.call73 ΩOK_nil))
theorem con_l2Low : ConOK Tryd.prog glb 89 sg_l2Low F_l2Low.spec := conOK_tree om_l2Low mixed Tryd.func89 (by kernel_rfl) run_l2Low
theorem cong_l2Low : ConOK Tryd.prog glb 89 sg_l2Low G_l2Low.spec := con_l2Low.as as_l2Low

def sg_iFracValid : Sig := { args := [.ag [.e (.var 0), .e (.var 1), .e (.var 2)]], pre := [], tin := [.int .i64, .int .i64, .int .i64], gin := [], res := .c (.s (.e (.var 0))), post := [], tout := [.bool], gout := [] }
def cl_iFracValid : List (Nat × Sig) := [(84, sg_within), (85, sg_divisor), (86, sg_size)]
theorem run_iFracValid : run ⟨Tryd.prog, glb, cl_iFracValid⟩ [] Tryd.f52 sg_iFracValid (Tryd.f52.body.getD .skip) = tr_iFracValid := by kernel_rfl
theorem om_iFracValid : ΩOK ⟨Tryd.prog, glb, cl_iFracValid⟩ (specsOf Fs_iFracValid) := (ΩOK_cons cong_within Tryd.call84 (ΩOK_cons con_divisor Tryd.call85 (ΩOK_cons con_size Tryd.call86 ΩOK_nil)))
theorem con_iFracValid : ConOK Tryd.prog glb 52 sg_iFracValid F_iFracValid.spec := conOK_tree om_iFracValid mixed Tryd.func52 (by kernel_rfl) run_iFracValid
theorem cong_iFracValid : ConOK Tryd.prog glb 52 sg_iFracValid G_iFracValid.spec := con_iFracValid.as as_iFracValid

def sg_iFracAdd : Sig := { args := [.ag [.e (.var 0), .e (.var 1), .e (.var 2)], .ag [.e (.var 3), .e (.var 4), .e (.var 5)]], pre := [], tin := [.int .i64, .int .i64, .int .i64, .int .i64, .int .i64, .int .i64], gin := [], res := .tu [.ag [.e (.var 0), .e (.var 1), .e (.var 2)], .s (.e (.var 3))], post := [], tout := [.int .i64, .int .i64, .int .i64, .bool], gout := [] }
def cl_iFracAdd : List (Nat × Sig) := [(52, sg_iFracValid), (53, sg_lowest)]
theorem run_iFracAdd : run ⟨Tryd.prog, glb, cl_iFracAdd⟩ [] Tryd.f30 sg_iFracAdd (Tryd.f30.body.getD .skip) = tr_iFracAdd := by kernel_rfl
theorem om_iFracAdd : ΩOK ⟨Tryd.prog, glb, cl_iFracAdd⟩ (specsOf Fs_iFracAdd) := (ΩOK_cons cong_iFracValid Tryd.call52 (ΩOK_cons cong_lowest Tryd.call53 ΩOK_nil))
theorem con_iFracAdd : ConOK Tryd.prog glb 30 sg_iFracAdd F_iFracAdd.spec := conOK_tree om_iFracAdd mixed Tryd.func30 (by kernel_rfl) run_iFracAdd
theorem cong_iFracAdd : ConOK Tryd.prog glb 30 sg_iFracAdd G_iFracAdd.spec := con_iFracAdd.as as_iFracAdd

def sg_iFracTimes : Sig := { args := [.ag [.e (.var 0), .e (.var 1), .e (.var 2)], .ag [.e (.var 3), .e (.var 4), .e (.var 5)]], pre := [], tin := [.int .i64, .int .i64, .int .i64, .int .i64, .int .i64, .int .i64], gin := [], res := .tu [.ag [.e (.var 0), .e (.var 1), .e (.var 2)], .s (.e (.var 3))], post := [], tout := [.int .i64, .int .i64, .int .i64, .bool], gout := [] }
def cl_iFracTimes : List (Nat × Sig) := [(52, sg_iFracValid), (53, sg_lowest)]
theorem run_iFracTimes : run ⟨Tryd.prog, glb, cl_iFracTimes⟩ [] Tryd.f25 sg_iFracTimes (Tryd.f25.body.getD .skip) = tr_iFracTimes := by kernel_rfl
theorem om_iFracTimes : ΩOK ⟨Tryd.prog, glb, cl_iFracTimes⟩ (specsOf Fs_iFracTimes) := (ΩOK_cons cong_iFracValid Tryd.call52 (ΩOK_cons cong_lowest Tryd.call53 ΩOK_nil))
theorem con_iFracTimes : ConOK Tryd.prog glb 25 sg_iFracTimes F_iFracTimes.spec := conOK_tree om_iFracTimes mixed Tryd.func25 (by kernel_rfl) run_iFracTimes
theorem cong_iFracTimes : ConOK Tryd.prog glb 25 sg_iFracTimes G_iFracTimes.spec := con_iFracTimes.as as_iFracTimes

def sg_l2Sum : Sig := { args := [.ag [.e (.var 0), .e (.var 1), .e (.var 2)], .s (.e (.var 3)), .ag [.e (.var 4), .e (.var 5), .e (.var 6)]], pre := [], tin := [.int .i64, .int .i64, .int .i64, .int .i64, .int .i64, .int .i64, .int .i64], gin := [], res := .tu [.ag [.e (.var 0), .e (.var 1), .e (.var 2)], .s (.e (.var 3))], post := [], tout := [.int .i64, .int .i64, .int .i64, .bool], gout := [] }
def cl_l2Sum : List (Nat × Sig) := [(73, sg_sFracValid), (89, sg_l2Low)]
theorem run_l2Sum : run ⟨Tryd.prog, glb, cl_l2Sum⟩ [] Tryd.f75 sg_l2Sum (Tryd.f75.body.getD .skip) = tr_l2Sum := by kernel_rfl
theorem om_l2Sum : ΩOK ⟨Tryd.prog, glb, cl_l2Sum⟩ (specsOf Fs_l2Sum) := (ΩOK_cons cong_sFracValid Tryd.call73 (ΩOK_cons cong_l2Low Tryd.call89 ΩOK_nil))
theorem con_l2Sum : ConOK Tryd.prog glb 75 sg_l2Sum F_l2Sum.spec := conOK_tree om_l2Sum mixed Tryd.func75 (by kernel_rfl) run_l2Sum
theorem cong_l2Sum : ConOK Tryd.prog glb 75 sg_l2Sum G_l2Sum.spec := con_l2Sum.as as_l2Sum

def sg_sFracAdd : Sig := { args := [.ag [.e (.var 0), .e (.var 1), .e (.var 2)], .ag [.e (.var 3), .e (.var 4), .e (.var 5)]], pre := [], tin := [.int .i64, .int .i64, .int .i64, .int .i64, .int .i64, .int .i64], gin := [], res := .tu [.ag [.e (.var 0), .e (.var 1), .e (.var 2)], .s (.e (.var 3))], post := [], tout := [.int .i64, .int .i64, .int .i64, .bool], gout := [] }
def cl_sFracAdd : List (Nat × Sig) := [(75, sg_l2Sum)]
theorem run_sFracAdd : run ⟨Tryd.prog, glb, cl_sFracAdd⟩ [] Tryd.f39 sg_sFracAdd (Tryd.f39.body.getD .skip) = tr_sFracAdd := by kernel_rfl
theorem om_sFracAdd : ΩOK ⟨Tryd.prog, glb, cl_sFracAdd⟩ (specsOf Fs_sFracAdd) := (ΩOK_cons cong_l2Sum Tryd.call75 ΩOK_nil)
theorem con_sFracAdd : ConOK Tryd.prog glb 39 sg_sFracAdd F_sFracAdd.spec := conOK_tree om_sFracAdd mixed Tryd.func39 (by kernel_rfl) run_sFracAdd
theorem cong_sFracAdd : ConOK Tryd.prog glb 39 sg_sFracAdd G_sFracAdd.spec := con_sFracAdd.as as_sFracAdd

def sg_sFracTimes : Sig := { args := [.ag [.e (.var 0), .e (.var 1), .e (.var 2)], .ag [.e (.var 3), .e (.var 4), .e (.var 5)]], pre := [], tin := [.int .i64, .int .i64, .int .i64, .int .i64, .int .i64, .int .i64], gin := [], res := .tu [.ag [.e (.var 0), .e (.var 1), .e (.var 2)], .s (.e (.var 3))], post := [], tout := [.int .i64, .int .i64, .int .i64, .bool], gout := [] }
def cl_sFracTimes : List (Nat × Sig) := [(73, sg_sFracValid), (89, sg_l2Low)]
theorem run_sFracTimes : run ⟨Tryd.prog, glb, cl_sFracTimes⟩ [] Tryd.f59 sg_sFracTimes (Tryd.f59.body.getD .skip) = tr_sFracTimes := by kernel_rfl
theorem om_sFracTimes : ΩOK ⟨Tryd.prog, glb, cl_sFracTimes⟩ (specsOf Fs_sFracTimes) := (ΩOK_cons cong_sFracValid Tryd.call73 (ΩOK_cons cong_l2Low Tryd.call89 ΩOK_nil))
theorem con_sFracTimes : ConOK Tryd.prog glb 59 sg_sFracTimes F_sFracTimes.spec := conOK_tree om_sFracTimes mixed Tryd.func59 (by kernel_rfl) run_sFracTimes
theorem cong_sFracTimes : ConOK Tryd.prog glb 59 sg_sFracTimes G_sFracTimes.spec := con_sFracTimes.as as_sFracTimes

def sg_keep : Sig := { args := [.s (.p (.own 0) 0), .ag [.e (.var 0), .e (.var 1), .e (.var 2)], .s (.e (.var 3))], pre := [⟨[.e (.var 4)], 64⟩], tin := [.int .i64, .int .i64, .int .i64, .bool, .bool], gin := [], res := .c (.ag [.e (.var 0), .e (.var 1), .e (.var 2)]), post := [⟨[.e (.var 3)], 64⟩], tout := [.int .i64, .int .i64, .int .i64, .bool], gout := [] }
def cl_keep : List (Nat × Sig) := []
theorem run_keep : run ⟨Tryd.prog, glb, cl_keep⟩ [] Tryd.f80 sg_keep (Tryd.f80.body.getD .skip) = tr_keep := by kernel_rfl
theorem om_keep : ΩOK ⟨Tryd.prog, glb, cl_keep⟩ (specsOf Fs_keep) := ΩOK_nil
theorem con_keep : ConOK Tryd.prog glb 80 sg_keep F_keep.spec := conOK_tree om_keep mixed Tryd.func80 (by kernel_rfl) run_keep

def sg_add : Sig := { args := [.s (.p (.own 0) 0), .ag [.e (.var 0), .e (.var 1), .e (.var 2)], .ag [.e (.var 3), .e (.var 4), .e (.var 5)]], pre := [⟨[.e (.var 6)], 64⟩], tin := [.int .i64, .int .i64, .int .i64, .int .i64, .int .i64, .int .i64, .bool], gin := [], res := .c (.ag [.e (.var 0), .e (.var 1), .e (.var 2)]), post := [⟨[.e (.var 3)], 64⟩], tout := [.int .i64, .int .i64, .int .i64, .bool], gout := [] }
def cl_add : List (Nat × Sig) := [(30, sg_iFracAdd), (80, sg_keep)]
theorem run_add : run ⟨Tryd.prog, glb, cl_add⟩ [] Tryd.f79 sg_add (Tryd.f79.body.getD .skip) = tr_add := by kernel_rfl
theorem om_add : ΩOK ⟨Tryd.prog, glb, cl_add⟩ (specsOf Fs_add) := (ΩOK_cons cong_iFracAdd Tryd.call30 (ΩOK_cons con_keep Tryd.call80 ΩOK_nil))
theorem con_add : ConOK Tryd.prog glb 79 sg_add F_add.spec := conOK_tree om_add mixed Tryd.func79 (by kernel_rfl) run_add
theorem cong_add : ConOK Tryd.prog glb 79 sg_add G_add.spec := con_add.as as_add

def sg_times : Sig := { args := [.s (.p (.own 0) 0), .ag [.e (.var 0), .e (.var 1), .e (.var 2)], .ag [.e (.var 3), .e (.var 4), .e (.var 5)]], pre := [⟨[.e (.var 6)], 64⟩], tin := [.int .i64, .int .i64, .int .i64, .int .i64, .int .i64, .int .i64, .bool], gin := [], res := .c (.ag [.e (.var 0), .e (.var 1), .e (.var 2)]), post := [⟨[.e (.var 3)], 64⟩], tout := [.int .i64, .int .i64, .int .i64, .bool], gout := [] }
def cl_times : List (Nat × Sig) := [(25, sg_iFracTimes), (80, sg_keep)]
theorem run_times : run ⟨Tryd.prog, glb, cl_times⟩ [] Tryd.f45 sg_times (Tryd.f45.body.getD .skip) = tr_times := by kernel_rfl
theorem om_times : ΩOK ⟨Tryd.prog, glb, cl_times⟩ (specsOf Fs_times) := (ΩOK_cons cong_iFracTimes Tryd.call25 (ΩOK_cons con_keep Tryd.call80 ΩOK_nil))
theorem con_times : ConOK Tryd.prog glb 45 sg_times F_times.spec := conOK_tree om_times mixed Tryd.func45 (by kernel_rfl) run_times
theorem cong_times : ConOK Tryd.prog glb 45 sg_times G_times.spec := con_times.as as_times

def sg_need : Sig := { args := [.s (.p (.own 0) 0), .s (.e (.var 0))], pre := [⟨[.e (.var 1)], 64⟩], tin := [.bool, .bool], gin := [], res := .c (.s (.p (.own 0) 0)), post := [⟨[.e (.var 0)], 64⟩], tout := [.bool], gout := [] }
def cl_need : List (Nat × Sig) := []
theorem run_need : run ⟨Tryd.prog, glb, cl_need⟩ [] Tryd.f42 sg_need (Tryd.f42.body.getD .skip) = tr_need := by kernel_rfl
theorem om_need : ΩOK ⟨Tryd.prog, glb, cl_need⟩ (specsOf Fs_need) := ΩOK_nil
theorem con_need : ConOK Tryd.prog glb 42 sg_need F_need.spec := conOK_tree om_need mixed Tryd.func42 (by kernel_rfl) run_need
theorem cong_need : ConOK Tryd.prog glb 42 sg_need G_need.spec := con_need.as as_need

def sg_toFrac : Sig := { args := [.ag [.e (.var 0), .e (.var 1), .e (.var 2)]], pre := [], tin := [.int .i64, .int .i64, .int .i64], gin := [], res := .c (.ag [.e (.var 0), .e (.var 1), .e (.var 2)]), post := [], tout := [.int .i64, .int .i64, .int .i64], gout := [] }
def cl_toFrac : List (Nat × Sig) := []
theorem run_toFrac : run ⟨Tryd.prog, glb, cl_toFrac⟩ [] Tryd.f17 sg_toFrac (Tryd.f17.body.getD .skip) = tr_toFrac := by kernel_rfl
theorem om_toFrac : ΩOK ⟨Tryd.prog, glb, cl_toFrac⟩ (specsOf Fs_toFrac) := ΩOK_nil
theorem con_toFrac : ConOK Tryd.prog glb 17 sg_toFrac F_toFrac.spec := conOK_tree om_toFrac mixed Tryd.func17 (by kernel_rfl) run_toFrac

def sg_eqFrac : Sig := { args := [.ag [.e (.var 0), .e (.var 1), .e (.var 2)], .ag [.e (.var 3), .e (.var 4), .e (.var 5)]], pre := [], tin := [.int .i64, .int .i64, .int .i64, .int .i64, .int .i64, .int .i64], gin := [], res := .c (.s (.e (.var 0))), post := [], tout := [.bool], gout := [] }
def cl_eqFrac : List (Nat × Sig) := []
theorem run_eqFrac : run ⟨Tryd.prog, glb, cl_eqFrac⟩ [] Tryd.f19 sg_eqFrac (Tryd.f19.body.getD .skip) = tr_eqFrac := by kernel_rfl
theorem om_eqFrac : ΩOK ⟨Tryd.prog, glb, cl_eqFrac⟩ (specsOf Fs_eqFrac) := ΩOK_nil
theorem con_eqFrac : ConOK Tryd.prog glb 19 sg_eqFrac F_eqFrac.spec := conOK_tree om_eqFrac mixed Tryd.func19 (by kernel_rfl) run_eqFrac
theorem cong_eqFrac : ConOK Tryd.prog glb 19 sg_eqFrac G_eqFrac.spec := con_eqFrac.as as_eqFrac

def sg_l3Inner : Sig := { args := [.ag [.e (.var 0), .e (.var 1), .e (.var 2)], .ag [.e (.var 3), .e (.var 4), .e (.var 5)], .ag [.e (.var 6), .e (.var 7), .e (.var 8)], .ag [.e (.var 9), .e (.var 10), .e (.var 11)]], pre := [], tin := [.int .i64, .int .i64, .int .i64, .int .i64, .int .i64, .int .i64, .int .i64, .int .i64, .int .i64, .int .i64, .int .i64, .int .i64], gin := [], res := .tu [.ag [.e (.var 0), .e (.var 1), .e (.var 2)], .s (.e (.var 3))], post := [], tout := [.int .i64, .int .i64, .int .i64, .bool], gout := [] }
def cl_l3Inner : List (Nat × Sig) := [(59, sg_sFracTimes), (39, sg_sFracAdd)]
theorem run_l3Inner : run ⟨Tryd.prog, glb, cl_l3Inner⟩ [] Tryd.f93 sg_l3Inner (Tryd.f93.body.getD .skip) = tr_l3Inner := by kernel_rfl
theorem om_l3Inner : ΩOK ⟨Tryd.prog, glb, cl_l3Inner⟩ (specsOf Fs_l3Inner) := (ΩOK_cons cong_sFracTimes Tryd.call59 (ΩOK_cons cong_sFracAdd Tryd.call39 ΩOK_nil))
theorem con_l3Inner : ConOK Tryd.prog glb 93 sg_l3Inner F_l3Inner.spec := conOK_tree om_l3Inner mixed Tryd.func93 (by kernel_rfl) run_l3Inner
theorem cong_l3Inner : ConOK Tryd.prog glb 93 sg_l3Inner G_l3Inner.spec := con_l3Inner.as as_l3Inner

def sg_iMatValid : Sig := { args := [.ag [.e (.var 0), .e (.var 1), .e (.var 2), .e (.var 3), .e (.var 4), .e (.var 5), .e (.var 6), .e (.var 7), .e (.var 8), .e (.var 9), .e (.var 10), .e (.var 11)]], pre := [], tin := [.int .i64, .int .i64, .int .i64, .int .i64, .int .i64, .int .i64, .int .i64, .int .i64, .int .i64, .int .i64, .int .i64, .int .i64], gin := [], res := .c (.s (.e (.var 0))), post := [], tout := [.bool], gout := [] }
def cl_iMatValid : List (Nat × Sig) := [(52, sg_iFracValid)]
theorem run_iMatValid : run ⟨Tryd.prog, glb, cl_iMatValid⟩ [] Tryd.f71 sg_iMatValid (Tryd.f71.body.getD .skip) = tr_iMatValid := by kernel_rfl
theorem om_iMatValid : ΩOK ⟨Tryd.prog, glb, cl_iMatValid⟩ (specsOf Fs_iMatValid) := (ΩOK_cons cong_iFracValid Tryd.call52 ΩOK_nil)
theorem con_iMatValid : ConOK Tryd.prog glb 71 sg_iMatValid F_iMatValid.spec := conOK_tree om_iMatValid mixed Tryd.func71 (by kernel_rfl) run_iMatValid
theorem cong_iMatValid : ConOK Tryd.prog glb 71 sg_iMatValid G_iMatValid.spec := con_iMatValid.as as_iMatValid

def sg_sMatValid : Sig := { args := [.ag [.e (.var 0), .e (.var 1), .e (.var 2), .e (.var 3), .e (.var 4), .e (.var 5), .e (.var 6), .e (.var 7), .e (.var 8), .e (.var 9), .e (.var 10), .e (.var 11)]], pre := [], tin := [.int .i64, .int .i64, .int .i64, .int .i64, .int .i64, .int .i64, .int .i64, .int .i64, .int .i64, .int .i64, .int .i64, .int .i64], gin := [], res := .c (.s (.e (.var 0))), post := [], tout := [.bool], gout := [] }
def cl_sMatValid : List (Nat × Sig) := [(73, sg_sFracValid)]
theorem run_sMatValid : run ⟨Tryd.prog, glb, cl_sMatValid⟩ [] Tryd.f67 sg_sMatValid (Tryd.f67.body.getD .skip) = tr_sMatValid := by kernel_rfl
theorem om_sMatValid : ΩOK ⟨Tryd.prog, glb, cl_sMatValid⟩ (specsOf Fs_sMatValid) := (ΩOK_cons cong_sFracValid Tryd.call73 ΩOK_nil)
theorem con_sMatValid : ConOK Tryd.prog glb 67 sg_sMatValid F_sMatValid.spec := conOK_tree om_sMatValid mixed Tryd.func67 (by kernel_rfl) run_sMatValid
theorem cong_sMatValid : ConOK Tryd.prog glb 67 sg_sMatValid G_sMatValid.spec := con_sMatValid.as as_sMatValid

def sg_szL : Sig := { args := [.s (.e (.var 0)), .s (.e (.var 1))], pre := [], tin := [.sl, .int .i64], gin := [], res := .c (.s (.e (.var 0))), post := [], tout := [.int .i64], gout := [] }
def cl_szL : List (Nat × Sig) := []
theorem run_szL : run ⟨Tryd.prog, glb, cl_szL⟩ [] Tryd.f11 sg_szL (Tryd.f11.body.getD .skip) = tr_szL := by kernel_rfl
theorem om_szL : ΩOK ⟨Tryd.prog, glb, cl_szL⟩ (specsOf Fs_szL) := ΩOK_nil
theorem con_szL : ConOK Tryd.prog glb 11 sg_szL F_szL.spec := conOK_tree om_szL mixed Tryd.func11 (by kernel_rfl) run_szL

def sg_toLayer : Sig := { args := [.ag [.e (.var 0), .e (.var 1), .e (.var 2), .e (.var 3)]], pre := [], tin := [.int .i64, .int .i64, .int .i64, .int .i64], gin := [], res := .c (.ag [.e (.var 0), .e (.var 1), .e (.var 2), .e (.var 3)]), post := [], tout := [.int .i64, .int .i64, .int .i64, .int .i64], gout := [] }
def cl_toLayer : List (Nat × Sig) := [(17, sg_toFrac)]
theorem run_toLayer : run ⟨Tryd.prog, glb, cl_toLayer⟩ [] Tryd.f34 sg_toLayer (Tryd.f34.body.getD .skip) = tr_toLayer := by kernel_rfl
theorem om_toLayer : ΩOK ⟨Tryd.prog, glb, cl_toLayer⟩ (specsOf Fs_toLayer) := (ΩOK_cons con_toFrac Tryd.call17 ΩOK_nil)
theorem con_toLayer : ConOK Tryd.prog glb 34 sg_toLayer F_toLayer.spec := conOK_tree om_toLayer mixed Tryd.func34 (by kernel_rfl) run_toLayer

def sg_toL : Sig := { args := [.s (.e (.var 0))], pre := [], tin := [.sl, .row .i64 4], gin := [(0, 1, 4)], res := .c (.s (.e (.var 0))), post := [], tout := [.sl, .row .i64 4], gout := [(0, 1, 4)] }
theorem run0_toFrac : run ⟨Tryd.prog, [], []⟩ [] Tryd.f17 sg_toFrac (Tryd.f17.body.getD .skip) = tr_toFrac := by kernel_rfl
theorem con0_toFrac : ConOK Tryd.prog [] 17 sg_toFrac F_toFrac.spec := conOK_tree ΩOK_nil mixed Tryd.func17 (by kernel_rfl) run0_toFrac
theorem run0_toLayer : run ⟨Tryd.prog, [], [(17, sg_toFrac)]⟩ [] Tryd.f34 sgFour (Tryd.f34.body.getD .skip) = tr_toLayer := by kernel_rfl
theorem con0_toLayer : ConOK Tryd.prog [] 34 sgFour F_toLayer.spec := conOK_tree (Fs := Fs_toLayer) (ΩOK_cons con0_toFrac Tryd.call17 ΩOK_nil) mixed Tryd.func34 (by kernel_rfl) run0_toLayer
theorem toL_elem (x0 x1 x2 x3 : Int) (h0 : IntKind.i64.wrap x0 = x0) (h1 : IntKind.i64.wrap x1 = x1) (h2 : IntKind.i64.wrap x2 = x2) (h3 : IntKind.i64.wrap x3 = x3) (w : World) : Calls Tryd.prog 34 #[.agg #[.int .i64 x0, .int .i64 x1, .int .i64 x2, .int .i64 x3]] w fun e w' => e = .returned (.agg #[.int .i64 x0, .int .i64 x1, .int .i64 x2, .int .i64 x3]) ∧ RowKit.Below w.heap.size w w' :=
  calls_four con0_toLayer (fun _ => okT_free (by intro F hF ins; simp only [Fs_toLayer, List.mem_singleton] at hF; rw [hF]; exact okT_free (fun F hF => by cases hF) _ _ (by kernel_rfl)) _ _ (by kernel_rfl)) (by kernel_rfl) x0 x1 x2 x3 h0 h1 h2 h3 w
theorem toL_make (w : World) (len : Nat) (hl : len ≤ 1048576) : (Instr.makeSlice 25 (.int .i64 len) (.int .i64 len)).run Tryd.prog w = .ok (.slice (some ⟨w.heap.size, 0, none⟩) len len) (w.alloc (.cells (madeCells #[.int .i64 0, .int .i64 0, .int .i64 0, .int .i64 0] (len * 4)) 40)) := by
  obtain ⟨i, hi⟩ := Option.isSome_iff_exists.1 (by kernel_rfl : (Tryd.prog.info? 40).isSome = true)
  have hz : i.zero = some (.agg #[.int .i64 0, .int .i64 0, .int .i64 0, .int .i64 0]) := by
    have h : (Tryd.prog.info? 40).bind (·.zero) = some (.agg #[.int .i64 0, .int .i64 0, .int .i64 0, .int .i64 0]) := by kernel_rfl
    rw [hi] at h; exact h
  have hs : i.size = 4 := by
    have h : (Tryd.prog.info? 40).map (·.size) = some 4 := by kernel_rfl
    rw [hi] at h; exact Option.some.inj h
  have hb : i.bytes = 32 := by
    have h : (Tryd.prog.info? 40).map (·.bytes) = some 32 := by kernel_rfl
    rw [hi] at h; exact Option.some.inj h
  have h := run_makeSlice w 25 40 i (.agg #[.int .i64 0, .int .i64 0, .int .i64 0, .int .i64 0]) Tryd.underlying25 hi hz .i64 .i64 (len : Int) (len : Int) (by omega) (Int.le_refl _) (by rw [hs, Int.toNat_natCast]; omega) (by rw [hb]; omega) (by omega)
  rw [hs] at h
  simp only [Int.toNat_natCast] at h
  exact h
set_option maxHeartbeats 800000 in
set_option maxRecDepth 1000000 in
theorem toL_walk (b off len cap : Nat) (zs : Nat → Int) (w : World) (hl : len ≤ 1048576) (hb : b < w.heap.size) (h64 : ∀ j, j < 4 * len → IntKind.i64.wrap (zs j) = zs j)
    (hc : ∀ j, j < 4 * len → w.cell? ⟨b, off + j, none⟩ = some (.int .i64 (zs j))) :
    Calls Tryd.prog 13 #[.slice (some ⟨b, off, none⟩) len cap] w fun e w' =>
      e = .returned (.slice (some ⟨w.heap.size, 0, none⟩) len len) ∧ RowKit.Below w.heap.size w w' ∧ w.heap.size < w'.heap.size ∧ ∀ j, j < 4 * len → w'.cell? ⟨w.heap.size, j, none⟩ = some (.int .i64 (zs j)) := by
  have hmk := toL_make w len hl
  go_enter Tryd.func13, Tryd.ntmps13
  go_wp2
  go_loopw [4] (fun i wr => ∃ k : Nat, k ≤ len ∧ i = .int .i64 k ∧ RowKit.Below w.heap.size w wr ∧ w.heap.size < wr.heap.size ∧ wr.there w.heap.size 0 (4 * len) ∧ ∀ j, j < 4 * k → wr.cell? ⟨w.heap.size, j, none⟩ = some (.int .i64 (zs j)))
    (fun i _ => len - (match i with | .int _ n => n.toNat | _ => 0))
  case atStart =>
    refine ⟨0, Nat.zero_le _, rfl, (RowKit.Below.refl _ _).alloc (Nat.le_refl _) _, by show _ < (w.heap.push _).size; rw [Array.size_push]; omega, fun j hj => ⟨?_, ?_⟩, fun j hj => by omega⟩
    · rw [Nat.zero_add, World.cell?_alloc_at _ _ _ _ rfl, Array.getElem?_eq_getElem (by rw [size_madeCells]; omega)]; rfl
    · exact World.frozen?_alloc_at _ _ _ _ rfl
  case round =>
    obtain ⟨k, hk, rfl, hB, hs, hth, heq⟩ := hrel
    by_cases hlt : k < len
    · have c0 : wr.cell? ⟨b, off + k * 4, none⟩ = some (.int .i64 (zs (4 * k))) := by rw [hB.cell hb, show off + k * 4 = off + 4 * k by omega]; exact hc _ (by omega)
      have c1 : wr.cell? ⟨b, off + k * 4 + 1, none⟩ = some (.int .i64 (zs (4 * k + 1))) := by rw [hB.cell hb, show off + k * 4 + 1 = off + (4 * k + 1) by omega]; exact hc _ (by omega)
      have c2 : wr.cell? ⟨b, off + k * 4 + 2, none⟩ = some (.int .i64 (zs (4 * k + 2))) := by rw [hB.cell hb, show off + k * 4 + 2 = off + (4 * k + 2) by omega]; exact hc _ (by omega)
      have c3 : wr.cell? ⟨b, off + k * 4 + 3, none⟩ = some (.int .i64 (zs (4 * k + 3))) := by rw [hB.cell hb, show off + k * 4 + 3 = off + (4 * k + 3) by omega]; exact hc _ (by omega)
      go_wp2_with fail
      refine (toL_elem _ _ _ _ (h64 _ (by omega)) (h64 _ (by omega)) (h64 _ (by omega)) (h64 _ (by omega)) _).mono ?_
      rintro e w1 ⟨rfl, hB1⟩
      have hth1 : w1.there w.heap.size 0 (4 * len) := fun j hj => by
        rw [hB1.cell hs, hB1.frozen hs]
        exact hth j hj
      have hth2 : w1.there w.heap.size (k * 4) 4 := fun j hj => by
        have := hth1 (k * 4 + j) (by omega)
        rwa [Nat.zero_add] at this
      have hone := all_oneCell_toArray (cs := [.int .i64 (zs (4 * k)), .int .i64 (zs (4 * k + 1)), .int .i64 (zs (4 * k + 2)), .int .i64 (zs (4 * k + 3))]) (by intro v hv; simp only [List.mem_cons, List.not_mem_nil, or_false] at hv; rcases hv with rfl | rfl | rfl | rfl <;> rfl)
      go_wp2_with (first | (refine wpList_store_mid rfl 40 (.tmp 21) (.tmp 20) rfl w.heap.size (k * 4) _ rfl rfl hth2 (by kernel_rfl) hone ?_) | fail)
      go_roundw
      case rel =>
        refine ⟨k + 1, by omega, by simp, ?_, ?_, ?_, ?_⟩
        · exact (((hB.trans (hB1.mono (by omega))).setCell (p := ⟨w.heap.size, k * 4, none⟩) (Nat.le_refl _) _).setCell (p := ⟨w.heap.size, k * 4 + 1, none⟩) (Nat.le_refl _) _).setCell (p := ⟨w.heap.size, k * 4 + 2, none⟩) (Nat.le_refl _) _ |>.setCell (p := ⟨w.heap.size, k * 4 + 3, none⟩) (Nat.le_refl _) _
        · have := hB1.size; simp [World.setCells, World.setCell]; omega
        · exact World.there_setCells hth1 _ _ _
        · intro j hj
          by_cases h : j < 4 * k
          · rw [World.cell?_setCells_out _ _ _ _ _ (fun _ _ => Or.inl (by show j < k * 4; omega)), hB1.cell hs]
            exact heq j h
          · have := World.rangeAt_setCells_same w1 w.heap.size (k * 4) [.int .i64 (zs (4 * k)), .int .i64 (zs (4 * k + 1)), .int .i64 (zs (4 * k + 2)), .int .i64 (zs (4 * k + 3))] hth2 (j - k * 4)
            rw [show k * 4 + (j - k * 4) = j by omega] at this
            obtain ⟨i, hi, rfl⟩ : ∃ i, i < 4 ∧ j = 4 * k + i := ⟨j - 4 * k, by omega, by omega⟩
            rw [show 4 * k + i - k * 4 = i by omega] at this
            match i, hi with
            | 0, _ => exact this _ rfl
            | 1, _ => exact this _ rfl
            | 2, _ => exact this _ rfl
            | 3, _ => exact this _ rfl
      case measure => simp; omega
    · have hk2 : k = len := by omega
      subst hk2
      go_wp2
      go_ret
      exact ⟨rfl, hB, hs, heq⟩
set_option maxHeartbeats 800000 in
set_option maxRecDepth 1000000 in
theorem toL_nil (cap : Nat) (w : World) : Calls Tryd.prog 13 #[.slice none 0 cap] w fun e w' => e = .returned (.slice (some ⟨w.heap.size, 0, none⟩) 0 0) ∧ RowKit.Below w.heap.size w w' ∧ w.heap.size < w'.heap.size := by
  have hmk : (Instr.makeSlice 25 (.int .i64 0) (.int .i64 0)).run Tryd.prog w = .ok (.slice (some ⟨w.heap.size, 0, none⟩) 0 0) (w.alloc (.cells (madeCells #[.int .i64 0, .int .i64 0, .int .i64 0, .int .i64 0] (0 * 4)) 40)) := toL_make w 0 (by omega)
  go_enter Tryd.func13, Tryd.ntmps13
  go_wp2
  refine wp_loop_rounds 1 ?_
  rw [rounds_succ]
  go_wp2
  go_ret
  exact ⟨rfl, (RowKit.Below.refl _ _).alloc (Nat.le_refl _) _, by show _ < (w.heap.push _).size; rw [Array.size_push]; omega⟩
theorem con_toL : ConOK Tryd.prog glb 13 sg_toL SP_toL := conOK_copy toL_walk toL_nil


def sg_eqLayer : Sig := { args := [.ag [.e (.var 0), .e (.var 1), .e (.var 2), .e (.var 3)], .ag [.e (.var 4), .e (.var 5), .e (.var 6), .e (.var 7)]], pre := [], tin := [.int .i64, .int .i64, .int .i64, .int .i64, .int .i64, .int .i64, .int .i64, .int .i64], gin := [], res := .c (.s (.e (.var 0))), post := [], tout := [.bool], gout := [] }
def cl_eqLayer : List (Nat × Sig) := [(19, sg_eqFrac)]
theorem run_eqLayer : run ⟨Tryd.prog, glb, cl_eqLayer⟩ [] Tryd.f37 sg_eqLayer (Tryd.f37.body.getD .skip) = tr_eqLayer := by kernel_rfl
theorem om_eqLayer : ΩOK ⟨Tryd.prog, glb, cl_eqLayer⟩ (specsOf Fs_eqLayer) := (ΩOK_cons cong_eqFrac Tryd.call19 ΩOK_nil)
theorem con_eqLayer : ConOK Tryd.prog glb 37 sg_eqLayer F_eqLayer.spec := conOK_tree om_eqLayer mixed Tryd.func37 (by kernel_rfl) run_eqLayer
theorem cong_eqLayer : ConOK Tryd.prog glb 37 sg_eqLayer G_eqLayer.spec := con_eqLayer.as as_eqLayer

def sg_eqLayerS : Sig := { args := [.s (.e (.var 0)), .s (.e (.var 1))], pre := [], tin := [.sl, .sl, .row .i64 4, .row .i64 4], gin := [(0, 2, 4), (1, 3, 4)], res := .c (.s (.e (.var 0))), post := [], tout := [.bool], gout := [] }
def cl_eqLayerS : List (Nat × Sig) := [(37, sg_eqLayer)]
theorem run_eqLayerS : run ⟨Tryd.prog, glb, cl_eqLayerS⟩ [(0, ⟨[(5, .int .i64)], []⟩)] Tryd.f15 sg_eqLayerS (Tryd.f15.body.getD .skip) = tr_eqLayerS := by kernel_rfl
theorem om_eqLayerS : ΩOK ⟨Tryd.prog, glb, cl_eqLayerS⟩ (specsOf Fs_eqLayerS) := (ΩOK_cons cong_eqLayer Tryd.call37 ΩOK_nil)
theorem con_eqLayerS : ConOK Tryd.prog glb 15 sg_eqLayerS F_eqLayerS.spec := conOK_of om_eqLayerS mixed Tryd.func15 (by kernel_rfl) run_eqLayerS (fun ins K ht h => sat_eqLayerS Tryd.prog ins K ht h.1 h.2)

def sg_indexOk : Sig := { args := [.ag [.e (.var 0), .e (.var 1), .e (.var 2)]], pre := [], tin := [.int .i64, .int .i64, .int .i64], gin := [], res := .c (.s (.e (.var 0))), post := [], tout := [.bool], gout := [] }
def cl_indexOk : List (Nat × Sig) := [(52, sg_iFracValid)]
theorem run_indexOk : run ⟨Tryd.prog, glb, cl_indexOk⟩ [] Tryd.f77 sg_indexOk (Tryd.f77.body.getD .skip) = tr_indexOk := by kernel_rfl
theorem om_indexOk : ΩOK ⟨Tryd.prog, glb, cl_indexOk⟩ (specsOf Fs_indexOk) := (ΩOK_cons cong_iFracValid Tryd.call52 ΩOK_nil)
theorem con_indexOk : ConOK Tryd.prog glb 77 sg_indexOk F_indexOk.spec := conOK_tree om_indexOk mixed Tryd.func77 (by kernel_rfl) run_indexOk
theorem cong_indexOk : ConOK Tryd.prog glb 77 sg_indexOk G_indexOk.spec := con_indexOk.as as_indexOk

def sg_iFilmValid : Sig := { args := [.s (.e (.var 0))], pre := [], tin := [.sl, .row .i64 4], gin := [(0, 1, 4)], res := .c (.s (.e (.var 0))), post := [], tout := [.bool], gout := [] }
def cl_iFilmValid : List (Nat × Sig) := [(77, sg_indexOk), (84, sg_within)]
theorem run_iFilmValid : run ⟨Tryd.prog, glb, cl_iFilmValid⟩ [(0, ⟨[(7, .int .i64)], []⟩)] Tryd.f50 sg_iFilmValid (Tryd.f50.body.getD .skip) = tr_iFilmValid := by kernel_rfl
theorem om_iFilmValid : ΩOK ⟨Tryd.prog, glb, cl_iFilmValid⟩ (specsOf Fs_iFilmValid) := (ΩOK_cons cong_indexOk Tryd.call77 (ΩOK_cons cong_within Tryd.call84 ΩOK_nil))
theorem con_iFilmValid : ConOK Tryd.prog glb 50 sg_iFilmValid F_iFilmValid.spec := conOK_of om_iFilmValid mixed Tryd.func50 (by kernel_rfl) run_iFilmValid (fun ins K ht h => sat_iFilmValid Tryd.prog ins K ht h.1 h.2)

def sg_sFilmValid : Sig := { args := [.s (.e (.var 0))], pre := [], tin := [.sl, .row .i64 4], gin := [(0, 1, 4)], res := .c (.s (.e (.var 0))), post := [], tout := [.bool], gout := [] }
def cl_sFilmValid : List (Nat × Sig) := [(73, sg_sFracValid), (91, sg_l6In)]
theorem run_sFilmValid : run ⟨Tryd.prog, glb, cl_sFilmValid⟩ [(0, ⟨[(3, .int .i64)], []⟩)] Tryd.f64 sg_sFilmValid (Tryd.f64.body.getD .skip) = tr_sFilmValid := by kernel_rfl
theorem om_sFilmValid : ΩOK ⟨Tryd.prog, glb, cl_sFilmValid⟩ (specsOf Fs_sFilmValid) := (ΩOK_cons cong_sFracValid Tryd.call73 (ΩOK_cons cong_l6In Tryd.call91 ΩOK_nil))
theorem con_sFilmValid : ConOK Tryd.prog glb 64 sg_sFilmValid F_sFilmValid.spec := conOK_of om_sFilmValid mixed Tryd.func64 (by kernel_rfl) run_sFilmValid (fun ins K ht h => sat_sFilmValid Tryd.prog ins K ht h.1 h.2)

def sg_mcell00 : Sig := { args := [.s (.e (.int .i64 (0))), .s (.e (.int .i64 (0))), .s (.p (.own 0) 0), .s (.p (.own 1) 0), .s (.p (.own 2) 0)], pre := [⟨[.p (.own 3) 0], 62⟩, ⟨[.e (.var 0), .e (.var 1), .e (.var 2), .e (.var 3), .e (.var 4), .e (.var 5), .e (.var 6), .e (.var 7), .e (.var 8), .e (.var 9), .e (.var 10), .e (.var 11)], 52⟩, ⟨[.e (.var 12), .e (.var 13), .e (.var 14), .e (.var 15), .e (.var 16), .e (.var 17), .e (.var 18), .e (.var 19), .e (.var 20), .e (.var 21), .e (.var 22), .e (.var 23)], 52⟩, ⟨[.e (.var 24)], 64⟩], tin := [.int .i64, .int .i64, .int .i64, .int .i64, .int .i64, .int .i64, .int .i64, .int .i64, .int .i64, .int .i64, .int .i64, .int .i64, .int .i64, .int .i64, .int .i64, .int .i64, .int .i64, .int .i64, .int .i64, .int .i64, .int .i64, .int .i64, .int .i64, .int .i64, .bool], gin := [], res := .c (.ag [.e (.var 0), .e (.var 1), .e (.var 2)]), post := [⟨[.p (.own 3) 0], 62⟩, ⟨[.e (.var 3), .e (.var 4), .e (.var 5), .e (.var 6), .e (.var 7), .e (.var 8), .e (.var 9), .e (.var 10), .e (.var 11), .e (.var 12), .e (.var 13), .e (.var 14)], 52⟩, ⟨[.e (.var 15), .e (.var 16), .e (.var 17), .e (.var 18), .e (.var 19), .e (.var 20), .e (.var 21), .e (.var 22), .e (.var 23), .e (.var 24), .e (.var 25), .e (.var 26)], 52⟩, ⟨[.e (.var 27)], 64⟩], tout := [.int .i64, .int .i64, .int .i64, .int .i64, .int .i64, .int .i64, .int .i64, .int .i64, .int .i64, .int .i64, .int .i64, .int .i64, .int .i64, .int .i64, .int .i64, .int .i64, .int .i64, .int .i64, .int .i64, .int .i64, .int .i64, .int .i64, .int .i64, .int .i64, .int .i64, .int .i64, .int .i64, .bool], gout := [] }
def cl_mcell00 : List (Nat × Sig) := [(45, sg_times), (79, sg_add)]
theorem run_mcell00 : run ⟨Tryd.prog, glb, cl_mcell00⟩ [] Tryd.f95 sg_mcell00 (Tryd.f95.body.getD .skip) = tr_mcell00 := by kernel_rfl
theorem om_mcell00 : ΩOK ⟨Tryd.prog, glb, cl_mcell00⟩ (specsOf Fs_mcell00) := (ΩOK_cons cong_times Tryd.call45 (ΩOK_cons cong_add Tryd.call79 ΩOK_nil))
theorem con_mcell00 : ConOK Tryd.prog glb 95 sg_mcell00 F_mcell00.spec := conOK_tree om_mcell00 mixed Tryd.func95 (by kernel_rfl) run_mcell00
theorem cong_mcell00 : ConOK Tryd.prog glb 95 sg_mcell00 G_mcell00.spec := con_mcell00.as as_mcell00

def sg_mcell01 : Sig := { args := [.s (.e (.int .i64 (0))), .s (.e (.int .i64 (1))), .s (.p (.own 0) 0), .s (.p (.own 1) 0), .s (.p (.own 2) 0)], pre := [⟨[.p (.own 3) 0], 62⟩, ⟨[.e (.var 0), .e (.var 1), .e (.var 2), .e (.var 3), .e (.var 4), .e (.var 5), .e (.var 6), .e (.var 7), .e (.var 8), .e (.var 9), .e (.var 10), .e (.var 11)], 52⟩, ⟨[.e (.var 12), .e (.var 13), .e (.var 14), .e (.var 15), .e (.var 16), .e (.var 17), .e (.var 18), .e (.var 19), .e (.var 20), .e (.var 21), .e (.var 22), .e (.var 23)], 52⟩, ⟨[.e (.var 24)], 64⟩], tin := [.int .i64, .int .i64, .int .i64, .int .i64, .int .i64, .int .i64, .int .i64, .int .i64, .int .i64, .int .i64, .int .i64, .int .i64, .int .i64, .int .i64, .int .i64, .int .i64, .int .i64, .int .i64, .int .i64, .int .i64, .int .i64, .int .i64, .int .i64, .int .i64, .bool], gin := [], res := .c (.ag [.e (.var 0), .e (.var 1), .e (.var 2)]), post := [⟨[.p (.own 3) 0], 62⟩, ⟨[.e (.var 3), .e (.var 4), .e (.var 5), .e (.var 6), .e (.var 7), .e (.var 8), .e (.var 9), .e (.var 10), .e (.var 11), .e (.var 12), .e (.var 13), .e (.var 14)], 52⟩, ⟨[.e (.var 15), .e (.var 16), .e (.var 17), .e (.var 18), .e (.var 19), .e (.var 20), .e (.var 21), .e (.var 22), .e (.var 23), .e (.var 24), .e (.var 25), .e (.var 26)], 52⟩, ⟨[.e (.var 27)], 64⟩], tout := [.int .i64, .int .i64, .int .i64, .int .i64, .int .i64, .int .i64, .int .i64, .int .i64, .int .i64, .int .i64, .int .i64, .int .i64, .int .i64, .int .i64, .int .i64, .int .i64, .int .i64, .int .i64, .int .i64, .int .i64, .int .i64, .int .i64, .int .i64, .int .i64, .int .i64, .int .i64, .int .i64, .bool], gout := [] }
def cl_mcell01 : List (Nat × Sig) := [(45, sg_times), (79, sg_add)]
theorem run_mcell01 : run ⟨Tryd.prog, glb, cl_mcell01⟩ [] Tryd.f95 sg_mcell01 (Tryd.f95.body.getD .skip) = tr_mcell01 := by kernel_rfl
theorem om_mcell01 : ΩOK ⟨Tryd.prog, glb, cl_mcell01⟩ (specsOf Fs_mcell01) := (ΩOK_cons cong_times Tryd.call45 (ΩOK_cons cong_add Tryd.call79 ΩOK_nil))
theorem con_mcell01 : ConOK Tryd.prog glb 95 sg_mcell01 F_mcell01.spec := conOK_tree om_mcell01 mixed Tryd.func95 (by kernel_rfl) run_mcell01
theorem cong_mcell01 : ConOK Tryd.prog glb 95 sg_mcell01 G_mcell01.spec := con_mcell01.as as_mcell01

def sg_mcell10 : Sig := { args := [.s (.e (.int .i64 (1))), .s (.e (.int .i64 (0))), .s (.p (.own 0) 0), .s (.p (.own 1) 0), .s (.p (.own 2) 0)], pre := [⟨[.p (.own 3) 0], 62⟩, ⟨[.e (.var 0), .e (.var 1), .e (.var 2), .e (.var 3), .e (.var 4), .e (.var 5), .e (.var 6), .e (.var 7), .e (.var 8), .e (.var 9), .e (.var 10), .e (.var 11)], 52⟩, ⟨[.e (.var 12), .e (.var 13), .e (.var 14), .e (.var 15), .e (.var 16), .e (.var 17), .e (.var 18), .e (.var 19), .e (.var 20), .e (.var 21), .e (.var 22), .e (.var 23)], 52⟩, ⟨[.e (.var 24)], 64⟩], tin := [.int .i64, .int .i64, .int .i64, .int .i64, .int .i64, .int .i64, .int .i64, .int .i64, .int .i64, .int .i64, .int .i64, .int .i64, .int .i64, .int .i64, .int .i64, .int .i64, .int .i64, .int .i64, .int .i64, .int .i64, .int .i64, .int .i64, .int .i64, .int .i64, .bool], gin := [], res := .c (.ag [.e (.var 0), .e (.var 1), .e (.var 2)]), post := [⟨[.p (.own 3) 0], 62⟩, ⟨[.e (.var 3), .e (.var 4), .e (.var 5), .e (.var 6), .e (.var 7), .e (.var 8), .e (.var 9), .e (.var 10), .e (.var 11), .e (.var 12), .e (.var 13), .e (.var 14)], 52⟩, ⟨[.e (.var 15), .e (.var 16), .e (.var 17), .e (.var 18), .e (.var 19), .e (.var 20), .e (.var 21), .e (.var 22), .e (.var 23), .e (.var 24), .e (.var 25), .e (.var 26)], 52⟩, ⟨[.e (.var 27)], 64⟩], tout := [.int .i64, .int .i64, .int .i64, .int .i64, .int .i64, .int .i64, .int .i64, .int .i64, .int .i64, .int .i64, .int .i64, .int .i64, .int .i64, .int .i64, .int .i64, .int .i64, .int .i64, .int .i64, .int .i64, .int .i64, .int .i64, .int .i64, .int .i64, .int .i64, .int .i64, .int .i64, .int .i64, .bool], gout := [] }
def cl_mcell10 : List (Nat × Sig) := [(45, sg_times), (79, sg_add)]
theorem run_mcell10 : run ⟨Tryd.prog, glb, cl_mcell10⟩ [] Tryd.f95 sg_mcell10 (Tryd.f95.body.getD .skip) = tr_mcell10 := by kernel_rfl
theorem om_mcell10 : ΩOK ⟨Tryd.prog, glb, cl_mcell10⟩ (specsOf Fs_mcell10) := (ΩOK_cons cong_times Tryd.call45 (ΩOK_cons cong_add Tryd.call79 ΩOK_nil))
theorem con_mcell10 : ConOK Tryd.prog glb 95 sg_mcell10 F_mcell10.spec := conOK_tree om_mcell10 mixed Tryd.func95 (by kernel_rfl) run_mcell10
theorem cong_mcell10 : ConOK Tryd.prog glb 95 sg_mcell10 G_mcell10.spec := con_mcell10.as as_mcell10

def sg_mcell11 : Sig := { args := [.s (.e (.int .i64 (1))), .s (.e (.int .i64 (1))), .s (.p (.own 0) 0), .s (.p (.own 1) 0), .s (.p (.own 2) 0)], pre := [⟨[.p (.own 3) 0], 62⟩, ⟨[.e (.var 0), .e (.var 1), .e (.var 2), .e (.var 3), .e (.var 4), .e (.var 5), .e (.var 6), .e (.var 7), .e (.var 8), .e (.var 9), .e (.var 10), .e (.var 11)], 52⟩, ⟨[.e (.var 12), .e (.var 13), .e (.var 14), .e (.var 15), .e (.var 16), .e (.var 17), .e (.var 18), .e (.var 19), .e (.var 20), .e (.var 21), .e (.var 22), .e (.var 23)], 52⟩, ⟨[.e (.var 24)], 64⟩], tin := [.int .i64, .int .i64, .int .i64, .int .i64, .int .i64, .int .i64, .int .i64, .int .i64, .int .i64, .int .i64, .int .i64, .int .i64, .int .i64, .int .i64, .int .i64, .int .i64, .int .i64, .int .i64, .int .i64, .int .i64, .int .i64, .int .i64, .int .i64, .int .i64, .bool], gin := [], res := .c (.ag [.e (.var 0), .e (.var 1), .e (.var 2)]), post := [⟨[.p (.own 3) 0], 62⟩, ⟨[.e (.var 3), .e (.var 4), .e (.var 5), .e (.var 6), .e (.var 7), .e (.var 8), .e (.var 9), .e (.var 10), .e (.var 11), .e (.var 12), .e (.var 13), .e (.var 14)], 52⟩, ⟨[.e (.var 15), .e (.var 16), .e (.var 17), .e (.var 18), .e (.var 19), .e (.var 20), .e (.var 21), .e (.var 22), .e (.var 23), .e (.var 24), .e (.var 25), .e (.var 26)], 52⟩, ⟨[.e (.var 27)], 64⟩], tout := [.int .i64, .int .i64, .int .i64, .int .i64, .int .i64, .int .i64, .int .i64, .int .i64, .int .i64, .int .i64, .int .i64, .int .i64, .int .i64, .int .i64, .int .i64, .int .i64, .int .i64, .int .i64, .int .i64, .int .i64, .int .i64, .int .i64, .int .i64, .int .i64, .int .i64, .int .i64, .int .i64, .bool], gout := [] }
def cl_mcell11 : List (Nat × Sig) := [(45, sg_times), (79, sg_add)]
theorem run_mcell11 : run ⟨Tryd.prog, glb, cl_mcell11⟩ [] Tryd.f95 sg_mcell11 (Tryd.f95.body.getD .skip) = tr_mcell11 := by kernel_rfl
theorem om_mcell11 : ΩOK ⟨Tryd.prog, glb, cl_mcell11⟩ (specsOf Fs_mcell11) := (ΩOK_cons cong_times Tryd.call45 (ΩOK_cons cong_add Tryd.call79 ΩOK_nil))
theorem con_mcell11 : ConOK Tryd.prog glb 95 sg_mcell11 F_mcell11.spec := conOK_tree om_mcell11 mixed Tryd.func95 (by kernel_rfl) run_mcell11
theorem cong_mcell11 : ConOK Tryd.prog glb 95 sg_mcell11 G_mcell11.spec := con_mcell11.as as_mcell11

def sg_gotMat : Sig := { args := [.s (.p (.own 0) 0), .ag [.e (.var 0), .e (.var 1), .e (.var 2), .e (.var 3), .e (.var 4), .e (.var 5), .e (.var 6), .e (.var 7), .e (.var 8), .e (.var 9), .e (.var 10), .e (.var 11)]], pre := [⟨[.e (.var 12)], 64⟩], tin := [.int .i64, .int .i64, .int .i64, .int .i64, .int .i64, .int .i64, .int .i64, .int .i64, .int .i64, .int .i64, .int .i64, .int .i64, .bool], gin := [], res := .tu [.ag [.e (.var 0), .e (.var 1), .e (.var 2), .e (.var 3), .e (.var 4), .e (.var 5), .e (.var 6), .e (.var 7), .e (.var 8), .e (.var 9), .e (.var 10), .e (.var 11)], .s (.e (.var 12))], post := [⟨[.e (.var 13)], 64⟩], tout := [.int .i64, .int .i64, .int .i64, .int .i64, .int .i64, .int .i64, .int .i64, .int .i64, .int .i64, .int .i64, .int .i64, .int .i64, .bool, .bool], gout := [] }
def cl_gotMat : List (Nat × Sig) := []
theorem run_gotMat : run ⟨Tryd.prog, glb, cl_gotMat⟩ [] Tryd.f96 sg_gotMat (Tryd.f96.body.getD .skip) = tr_gotMat := by kernel_rfl
theorem om_gotMat : ΩOK ⟨Tryd.prog, glb, cl_gotMat⟩ (specsOf Fs_gotMat) := ΩOK_nil
theorem con_gotMat : ConOK Tryd.prog glb 96 sg_gotMat F_gotMat.spec := conOK_tree om_gotMat mixed Tryd.func96 (by kernel_rfl) run_gotMat
theorem cong_gotMat : ConOK Tryd.prog glb 96 sg_gotMat G_gotMat.spec := con_gotMat.as as_gotMat

def sg_iMatTimes : Sig := { args := [.ag [.e (.var 0), .e (.var 1), .e (.var 2), .e (.var 3), .e (.var 4), .e (.var 5), .e (.var 6), .e (.var 7), .e (.var 8), .e (.var 9), .e (.var 10), .e (.var 11)], .ag [.e (.var 12), .e (.var 13), .e (.var 14), .e (.var 15), .e (.var 16), .e (.var 17), .e (.var 18), .e (.var 19), .e (.var 20), .e (.var 21), .e (.var 22), .e (.var 23)]], pre := [], tin := [.int .i64, .int .i64, .int .i64, .int .i64, .int .i64, .int .i64, .int .i64, .int .i64, .int .i64, .int .i64, .int .i64, .int .i64, .int .i64, .int .i64, .int .i64, .int .i64, .int .i64, .int .i64, .int .i64, .int .i64, .int .i64, .int .i64, .int .i64, .int .i64], gin := [], res := .tu [.ag [.e (.var 0), .e (.var 1), .e (.var 2), .e (.var 3), .e (.var 4), .e (.var 5), .e (.var 6), .e (.var 7), .e (.var 8), .e (.var 9), .e (.var 10), .e (.var 11)], .s (.e (.var 12))], post := [], tout := [.int .i64, .int .i64, .int .i64, .int .i64, .int .i64, .int .i64, .int .i64, .int .i64, .int .i64, .int .i64, .int .i64, .int .i64, .bool], gout := [] }
def cl_iMatTimes : List (Nat × Sig) := [(71, sg_iMatValid), (42, sg_need), (95, sg_mcell00), (95, sg_mcell01), (95, sg_mcell10), (95, sg_mcell11), (96, sg_gotMat)]
theorem run_iMatTimes : run ⟨Tryd.prog, glb, cl_iMatTimes⟩ [] Tryd.f70 sg_iMatTimes (Tryd.f70.body.getD .skip) = tr_iMatTimes := by kernel_rfl
theorem om_iMatTimes : ΩOK ⟨Tryd.prog, glb, cl_iMatTimes⟩ (specsOf Fs_iMatTimes) := (ΩOK_cons cong_iMatValid Tryd.call71 (ΩOK_cons cong_need Tryd.call42 (ΩOK_cons cong_mcell00 Tryd.call95 (ΩOK_cons cong_mcell01 Tryd.call95 (ΩOK_cons cong_mcell10 Tryd.call95 (ΩOK_cons cong_mcell11 Tryd.call95 (ΩOK_cons cong_gotMat Tryd.call96 ΩOK_nil)))))))
theorem con_iMatTimes : ConOK Tryd.prog glb 70 sg_iMatTimes F_iMatTimes.spec := conOK_tree om_iMatTimes mixed Tryd.func70 (by kernel_rfl) run_iMatTimes
theorem cong_iMatTimes : ConOK Tryd.prog glb 70 sg_iMatTimes G_iMatTimes.spec := con_iMatTimes.as as_iMatTimes

def sg_l5Four : Sig := { args := [.ag [.e (.var 0), .e (.var 1), .e (.var 2)], .ag [.e (.var 3), .e (.var 4), .e (.var 5)], .ag [.e (.var 6), .e (.var 7), .e (.var 8)], .ag [.e (.var 9), .e (.var 10), .e (.var 11)], .s (.e (.var 12))], pre := [], tin := [.int .i64, .int .i64, .int .i64, .int .i64, .int .i64, .int .i64, .int .i64, .int .i64, .int .i64, .int .i64, .int .i64, .int .i64, .bool], gin := [], res := .tu [.ag [.e (.var 0), .e (.var 1), .e (.var 2), .e (.var 3), .e (.var 4), .e (.var 5), .e (.var 6), .e (.var 7), .e (.var 8), .e (.var 9), .e (.var 10), .e (.var 11)], .s (.e (.var 12))], post := [], tout := [.int .i64, .int .i64, .int .i64, .int .i64, .int .i64, .int .i64, .int .i64, .int .i64, .int .i64, .int .i64, .int .i64, .int .i64, .bool], gout := [] }
def cl_l5Four : List (Nat × Sig) := []
theorem run_l5Four : run ⟨Tryd.prog, glb, cl_l5Four⟩ [] Tryd.f92 sg_l5Four (Tryd.f92.body.getD .skip) = tr_l5Four := by kernel_rfl
theorem om_l5Four : ΩOK ⟨Tryd.prog, glb, cl_l5Four⟩ (specsOf Fs_l5Four) := ΩOK_nil
theorem con_l5Four : ConOK Tryd.prog glb 92 sg_l5Four F_l5Four.spec := conOK_tree om_l5Four mixed Tryd.func92 (by kernel_rfl) run_l5Four
theorem cong_l5Four : ConOK Tryd.prog glb 92 sg_l5Four G_l5Four.spec := con_l5Four.as as_l5Four

def sg_sMatTimes : Sig := { args := [.ag [.e (.var 0), .e (.var 1), .e (.var 2), .e (.var 3), .e (.var 4), .e (.var 5), .e (.var 6), .e (.var 7), .e (.var 8), .e (.var 9), .e (.var 10), .e (.var 11)], .ag [.e (.var 12), .e (.var 13), .e (.var 14), .e (.var 15), .e (.var 16), .e (.var 17), .e (.var 18), .e (.var 19), .e (.var 20), .e (.var 21), .e (.var 22), .e (.var 23)]], pre := [], tin := [.int .i64, .int .i64, .int .i64, .int .i64, .int .i64, .int .i64, .int .i64, .int .i64, .int .i64, .int .i64, .int .i64, .int .i64, .int .i64, .int .i64, .int .i64, .int .i64, .int .i64, .int .i64, .int .i64, .int .i64, .int .i64, .int .i64, .int .i64, .int .i64], gin := [], res := .tu [.ag [.e (.var 0), .e (.var 1), .e (.var 2), .e (.var 3), .e (.var 4), .e (.var 5), .e (.var 6), .e (.var 7), .e (.var 8), .e (.var 9), .e (.var 10), .e (.var 11)], .s (.e (.var 12))], post := [], tout := [.int .i64, .int .i64, .int .i64, .int .i64, .int .i64, .int .i64, .int .i64, .int .i64, .int .i64, .int .i64, .int .i64, .int .i64, .bool], gout := [] }
def cl_sMatTimes : List (Nat × Sig) := [(67, sg_sMatValid), (93, sg_l3Inner), (92, sg_l5Four)]
theorem run_sMatTimes : run ⟨Tryd.prog, glb, cl_sMatTimes⟩ [] Tryd.f66 sg_sMatTimes (Tryd.f66.body.getD .skip) = tr_sMatTimes := by kernel_rfl
theorem om_sMatTimes : ΩOK ⟨Tryd.prog, glb, cl_sMatTimes⟩ (specsOf Fs_sMatTimes) := (ΩOK_cons cong_sMatValid Tryd.call67 (ΩOK_cons cong_l3Inner Tryd.call93 (ΩOK_cons cong_l5Four Tryd.call92 ΩOK_nil)))
theorem con_sMatTimes : ConOK Tryd.prog glb 66 sg_sMatTimes F_sMatTimes.spec := conOK_tree om_sMatTimes mixed Tryd.func66 (by kernel_rfl) run_sMatTimes
theorem cong_sMatTimes : ConOK Tryd.prog glb 66 sg_sMatTimes G_sMatTimes.spec := con_sMatTimes.as as_sMatTimes

def sg_wholeM : Sig := { args := [.s (.e (.int .i64 (-1)))], pre := [], tin := [], gin := [], res := .c (.ag [.e (.int .i64 (-1)), .e (.int .i64 (0)), .e (.int .i64 (1))]), post := [], tout := [], gout := [] }
def cl_wholeM : List (Nat × Sig) := []
theorem run_wholeM : run ⟨Tryd.prog, glb, cl_wholeM⟩ [] Tryd.f46 sg_wholeM (Tryd.f46.body.getD .skip) = tr_wholeM := by kernel_rfl
theorem om_wholeM : ΩOK ⟨Tryd.prog, glb, cl_wholeM⟩ (specsOf Fs_wholeM) := ΩOK_nil
theorem con_wholeM : ConOK Tryd.prog glb 46 sg_wholeM F_wholeM.spec := conOK_tree om_wholeM mixed Tryd.func46 (by kernel_rfl) run_wholeM

def sg_iMatScaleM : Sig := { args := [.ag [.e (.var 0), .e (.var 1), .e (.var 2), .e (.var 3), .e (.var 4), .e (.var 5), .e (.var 6), .e (.var 7), .e (.var 8), .e (.var 9), .e (.var 10), .e (.var 11)], .ag [.e (.int .i64 (-1)), .e (.int .i64 (0)), .e (.int .i64 (1))]], pre := [], tin := [.int .i64, .int .i64, .int .i64, .int .i64, .int .i64, .int .i64, .int .i64, .int .i64, .int .i64, .int .i64, .int .i64, .int .i64], gin := [], res := .tu [.ag [.e (.var 0), .e (.var 1), .e (.var 2), .e (.var 3), .e (.var 4), .e (.var 5), .e (.var 6), .e (.var 7), .e (.var 8), .e (.var 9), .e (.var 10), .e (.var 11)], .s (.e (.var 12))], post := [], tout := [.int .i64, .int .i64, .int .i64, .int .i64, .int .i64, .int .i64, .int .i64, .int .i64, .int .i64, .int .i64, .int .i64, .int .i64, .bool], gout := [] }
def cl_iMatScaleM : List (Nat × Sig) := [(71, sg_iMatValid), (52, sg_iFracValid), (42, sg_need), (45, sg_times), (96, sg_gotMat)]
theorem run_iMatScaleM : run ⟨Tryd.prog, glb, cl_iMatScaleM⟩ [] Tryd.f94 sg_iMatScaleM (Tryd.f94.body.getD .skip) = tr_iMatScaleM := by kernel_rfl
theorem om_iMatScaleM : ΩOK ⟨Tryd.prog, glb, cl_iMatScaleM⟩ (specsOf Fs_iMatScaleM) := (ΩOK_cons cong_iMatValid Tryd.call71 (ΩOK_cons cong_iFracValid Tryd.call52 (ΩOK_cons cong_need Tryd.call42 (ΩOK_cons cong_times Tryd.call45 (ΩOK_cons cong_gotMat Tryd.call96 ΩOK_nil)))))
theorem con_iMatScaleM : ConOK Tryd.prog glb 94 sg_iMatScaleM F_iMatScaleM.spec := conOK_tree om_iMatScaleM mixed Tryd.func94 (by kernel_rfl) run_iMatScaleM
theorem cong_iMatScaleM : ConOK Tryd.prog glb 94 sg_iMatScaleM G_iMatScaleM.spec := con_iMatScaleM.as as_iMatScaleM

def sg_iFracOver : Sig := { args := [.ag [.e (.var 0), .e (.var 1), .e (.var 2)], .ag [.e (.var 3), .e (.var 4), .e (.var 5)]], pre := [], tin := [.int .i64, .int .i64, .int .i64, .int .i64, .int .i64, .int .i64], gin := [], res := .tu [.ag [.e (.var 0), .e (.var 1), .e (.var 2)], .s (.e (.var 3))], post := [], tout := [.int .i64, .int .i64, .int .i64, .bool], gout := [] }
def cl_iFracOver : List (Nat × Sig) := [(52, sg_iFracValid), (53, sg_lowest), (25, sg_iFracTimes)]
theorem run_iFracOver : run ⟨Tryd.prog, glb, cl_iFracOver⟩ [] Tryd.f81 sg_iFracOver (Tryd.f81.body.getD .skip) = tr_iFracOver := by kernel_rfl
theorem om_iFracOver : ΩOK ⟨Tryd.prog, glb, cl_iFracOver⟩ (specsOf Fs_iFracOver) := (ΩOK_cons cong_iFracValid Tryd.call52 (ΩOK_cons cong_lowest Tryd.call53 (ΩOK_cons cong_iFracTimes Tryd.call25 ΩOK_nil)))
theorem con_iFracOver : ConOK Tryd.prog glb 81 sg_iFracOver F_iFracOver.spec := conOK_tree om_iFracOver mixed Tryd.func81 (by kernel_rfl) run_iFracOver
theorem cong_iFracOver : ConOK Tryd.prog glb 81 sg_iFracOver G_iFracOver.spec := con_iFracOver.as as_iFracOver

def sg_over : Sig := { args := [.s (.p (.own 0) 0), .ag [.e (.var 0), .e (.var 1), .e (.var 2)], .ag [.e (.var 3), .e (.var 4), .e (.var 5)]], pre := [⟨[.e (.var 6)], 64⟩], tin := [.int .i64, .int .i64, .int .i64, .int .i64, .int .i64, .int .i64, .bool], gin := [], res := .c (.ag [.e (.var 0), .e (.var 1), .e (.var 2)]), post := [⟨[.e (.var 3)], 64⟩], tout := [.int .i64, .int .i64, .int .i64, .bool], gout := [] }
def cl_over : List (Nat × Sig) := [(81, sg_iFracOver), (80, sg_keep)]
theorem run_over : run ⟨Tryd.prog, glb, cl_over⟩ [] Tryd.f44 sg_over (Tryd.f44.body.getD .skip) = tr_over := by kernel_rfl
theorem om_over : ΩOK ⟨Tryd.prog, glb, cl_over⟩ (specsOf Fs_over) := (ΩOK_cons cong_iFracOver Tryd.call81 (ΩOK_cons con_keep Tryd.call80 ΩOK_nil))
theorem con_over : ConOK Tryd.prog glb 44 sg_over F_over.spec := conOK_tree om_over mixed Tryd.func44 (by kernel_rfl) run_over
theorem cong_over : ConOK Tryd.prog glb 44 sg_over G_over.spec := con_over.as as_over

def sg_layerMat : Sig := { args := [.ag [.e (.var 0), .e (.var 1), .e (.var 2), .e (.var 3)]], pre := [], tin := [.int .i64, .int .i64, .int .i64, .int .i64], gin := [], res := .tu [.ag [.e (.var 0), .e (.var 1), .e (.var 2), .e (.var 3), .e (.var 4), .e (.var 5), .e (.var 6), .e (.var 7), .e (.var 8), .e (.var 9), .e (.var 10), .e (.var 11)], .s (.e (.var 12))], post := [], tout := [.int .i64, .int .i64, .int .i64, .int .i64, .int .i64, .int .i64, .int .i64, .int .i64, .int .i64, .int .i64, .int .i64, .int .i64, .bool], gout := [] }
def cl_layerMat : List (Nat × Sig) := [(46, sg_wholeM), (44, sg_over), (45, sg_times), (94, sg_iMatScaleM)]
theorem run_layerMat : run ⟨Tryd.prog, glb, cl_layerMat⟩ [] Tryd.f69 sg_layerMat (Tryd.f69.body.getD .skip) = tr_layerMat := by kernel_rfl
theorem om_layerMat : ΩOK ⟨Tryd.prog, glb, cl_layerMat⟩ (specsOf Fs_layerMat) := (ΩOK_cons con_wholeM Tryd.call46 (ΩOK_cons cong_over Tryd.call44 (ΩOK_cons cong_times Tryd.call45 (ΩOK_cons cong_iMatScaleM Tryd.call94 ΩOK_nil))))
theorem con_layerMat : ConOK Tryd.prog glb 69 sg_layerMat F_layerMat.spec := conOK_tree om_layerMat mixed Tryd.func69 (by kernel_rfl) run_layerMat
theorem cong_layerMat : ConOK Tryd.prog glb 69 sg_layerMat G_layerMat.spec := con_layerMat.as as_layerMat

def sg_l2Turned : Sig := { args := [.ag [.e (.var 0), .e (.var 1), .e (.var 2)]], pre := [], tin := [.int .i64, .int .i64, .int .i64], gin := [], res := .tu [.ag [.e (.var 0), .e (.var 1), .e (.var 2)], .s (.e (.var 3))], post := [], tout := [.int .i64, .int .i64, .int .i64, .bool], gout := [] }
def cl_l2Turned : List (Nat × Sig) := [(98, sg_l2Gcd), (89, sg_l2Low)]
theorem run_l2Turned : run ⟨Tryd.prog, glb, cl_l2Turned⟩ [] Tryd.f76 sg_l2Turned (Tryd.f76.body.getD .skip) = tr_l2Turned := by kernel_rfl
theorem om_l2Turned : ΩOK ⟨Tryd.prog, glb, cl_l2Turned⟩ (specsOf Fs_l2Turned) := (ΩOK_cons con_l2Gcd Tryd.call98 (ΩOK_cons cong_l2Low Tryd.call89 ΩOK_nil))
theorem con_l2Turned : ConOK Tryd.prog glb 76 sg_l2Turned F_l2Turned.spec := conOK_tree om_l2Turned mixed Tryd.func76 (by kernel_rfl) run_l2Turned
theorem cong_l2Turned : ConOK Tryd.prog glb 76 sg_l2Turned G_l2Turned.spec := con_l2Turned.as as_l2Turned

def sg_sFracOver : Sig := { args := [.ag [.e (.var 0), .e (.var 1), .e (.var 2)], .ag [.e (.var 3), .e (.var 4), .e (.var 5)]], pre := [], tin := [.int .i64, .int .i64, .int .i64, .int .i64, .int .i64, .int .i64], gin := [], res := .tu [.ag [.e (.var 0), .e (.var 1), .e (.var 2)], .s (.e (.var 3))], post := [], tout := [.int .i64, .int .i64, .int .i64, .bool], gout := [] }
def cl_sFracOver : List (Nat × Sig) := [(73, sg_sFracValid), (76, sg_l2Turned), (59, sg_sFracTimes)]
theorem run_sFracOver : run ⟨Tryd.prog, glb, cl_sFracOver⟩ [] Tryd.f40 sg_sFracOver (Tryd.f40.body.getD .skip) = tr_sFracOver := by kernel_rfl
theorem om_sFracOver : ΩOK ⟨Tryd.prog, glb, cl_sFracOver⟩ (specsOf Fs_sFracOver) := (ΩOK_cons cong_sFracValid Tryd.call73 (ΩOK_cons cong_l2Turned Tryd.call76 (ΩOK_cons cong_sFracTimes Tryd.call59 ΩOK_nil)))
theorem con_sFracOver : ConOK Tryd.prog glb 40 sg_sFracOver F_sFracOver.spec := conOK_tree om_sFracOver mixed Tryd.func40 (by kernel_rfl) run_sFracOver
theorem cong_sFracOver : ConOK Tryd.prog glb 40 sg_sFracOver G_sFracOver.spec := con_sFracOver.as as_sFracOver

def sg_l5Phase0 : Sig := { args := [.s (.e (.int .i64 (0)))], pre := [], tin := [], gin := [], res := .c (.ag [.e (.int .i64 (1)), .e (.int .i64 (0)), .e (.int .i64 (1))]), post := [], tout := [], gout := [] }
def cl_l5Phase0 : List (Nat × Sig) := []
theorem run_l5Phase0 : run ⟨Tryd.prog, glb, cl_l5Phase0⟩ [] Tryd.f63 sg_l5Phase0 (Tryd.f63.body.getD .skip) = tr_l5Phase0 := by kernel_rfl
theorem om_l5Phase0 : ΩOK ⟨Tryd.prog, glb, cl_l5Phase0⟩ (specsOf Fs_l5Phase0) := ΩOK_nil
theorem con_l5Phase0 : ConOK Tryd.prog glb 63 sg_l5Phase0 F_l5Phase0.spec := conOK_tree om_l5Phase0 mixed Tryd.func63 (by kernel_rfl) run_l5Phase0

def sg_l5Phase2 : Sig := { args := [.s (.e (.int .i64 (2)))], pre := [], tin := [], gin := [], res := .c (.ag [.e (.int .i64 (-1)), .e (.int .i64 (0)), .e (.int .i64 (1))]), post := [], tout := [], gout := [] }
def cl_l5Phase2 : List (Nat × Sig) := []
theorem run_l5Phase2 : run ⟨Tryd.prog, glb, cl_l5Phase2⟩ [] Tryd.f63 sg_l5Phase2 (Tryd.f63.body.getD .skip) = tr_l5Phase2 := by kernel_rfl
theorem om_l5Phase2 : ΩOK ⟨Tryd.prog, glb, cl_l5Phase2⟩ (specsOf Fs_l5Phase2) := ΩOK_nil
theorem con_l5Phase2 : ConOK Tryd.prog glb 63 sg_l5Phase2 F_l5Phase2.spec := conOK_tree om_l5Phase2 mixed Tryd.func63 (by kernel_rfl) run_l5Phase2

def sg_l5One : Sig := { args := [.ag [.e (.var 0), .e (.var 1), .e (.var 2)], .ag [.e (.var 3), .e (.var 4), .e (.var 5)]], pre := [], tin := [.int .i64, .int .i64, .int .i64, .int .i64, .int .i64, .int .i64], gin := [], res := .c (.ag [.e (.var 0), .e (.var 1), .e (.var 2), .e (.var 3), .e (.var 4), .e (.var 5), .e (.var 6), .e (.var 7), .e (.var 8), .e (.var 9), .e (.var 10), .e (.var 11)]), post := [], tout := [.int .i64, .int .i64, .int .i64, .int .i64, .int .i64, .int .i64, .int .i64, .int .i64, .int .i64, .int .i64, .int .i64, .int .i64], gout := [] }
def cl_l5One : List (Nat × Sig) := []
theorem run_l5One : run ⟨Tryd.prog, glb, cl_l5One⟩ [] Tryd.f62 sg_l5One (Tryd.f62.body.getD .skip) = tr_l5One := by kernel_rfl
theorem om_l5One : ΩOK ⟨Tryd.prog, glb, cl_l5One⟩ (specsOf Fs_l5One) := ΩOK_nil
theorem con_l5One : ConOK Tryd.prog glb 62 sg_l5One F_l5One.spec := conOK_tree om_l5One mixed Tryd.func62 (by kernel_rfl) run_l5One

def sg_l8Layer : Sig := { args := [.ag [.e (.var 0), .e (.var 1), .e (.var 2), .e (.var 3)]], pre := [], tin := [.int .i64, .int .i64, .int .i64, .int .i64], gin := [], res := .tu [.ag [.e (.var 0), .e (.var 1), .e (.var 2), .e (.var 3), .e (.var 4), .e (.var 5), .e (.var 6), .e (.var 7), .e (.var 8), .e (.var 9), .e (.var 10), .e (.var 11)], .s (.e (.var 12))], post := [], tout := [.int .i64, .int .i64, .int .i64, .int .i64, .int .i64, .int .i64, .int .i64, .int .i64, .int .i64, .int .i64, .int .i64, .int .i64, .bool], gout := [] }
def cl_l8Layer : List (Nat × Sig) := [(63, sg_l5Phase0), (63, sg_l5Phase2), (62, sg_l5One), (40, sg_sFracOver), (59, sg_sFracTimes), (92, sg_l5Four)]
theorem run_l8Layer : run ⟨Tryd.prog, glb, cl_l8Layer⟩ [] Tryd.f65 sg_l8Layer (Tryd.f65.body.getD .skip) = tr_l8Layer := by kernel_rfl
theorem om_l8Layer : ΩOK ⟨Tryd.prog, glb, cl_l8Layer⟩ (specsOf Fs_l8Layer) := (ΩOK_cons con_l5Phase0 Tryd.call63 (ΩOK_cons con_l5Phase2 Tryd.call63 (ΩOK_cons con_l5One Tryd.call62 (ΩOK_cons cong_sFracOver Tryd.call40 (ΩOK_cons cong_sFracTimes Tryd.call59 (ΩOK_cons cong_l5Four Tryd.call92 ΩOK_nil))))))
theorem con_l8Layer : ConOK Tryd.prog glb 65 sg_l8Layer F_l8Layer.spec := conOK_tree om_l8Layer mixed Tryd.func65 (by kernel_rfl) run_l8Layer
theorem cong_l8Layer : ConOK Tryd.prog glb 65 sg_l8Layer G_l8Layer.spec := con_l8Layer.as as_l8Layer

def sg_iFilmMat : Sig := { args := [.s (.e (.var 0))], pre := [], tin := [.sl, .row .i64 4], gin := [(0, 1, 4)], res := .tu [.ag [.e (.var 0), .e (.var 1), .e (.var 2), .e (.var 3), .e (.var 4), .e (.var 5), .e (.var 6), .e (.var 7), .e (.var 8), .e (.var 9), .e (.var 10), .e (.var 11)], .s (.e (.var 12))], post := [], tout := [.int .i64, .int .i64, .int .i64, .int .i64, .int .i64, .int .i64, .int .i64, .int .i64, .int .i64, .int .i64, .int .i64, .int .i64, .bool], gout := [] }
def cl_iFilmMat : List (Nat × Sig) := [(50, sg_iFilmValid), (69, sg_layerMat), (70, sg_iMatTimes)]
theorem run_iFilmMat : run ⟨Tryd.prog, glb, cl_iFilmMat⟩ [(0, ⟨[(18, .int .i64)], [(1, 0, .int .i64), (1, 1, .int .i64), (1, 2, .int .i64), (1, 3, .int .i64), (1, 4, .int .i64), (1, 5, .int .i64), (1, 6, .int .i64), (1, 7, .int .i64), (1, 8, .int .i64), (1, 9, .int .i64), (1, 10, .int .i64), (1, 11, .int .i64)]⟩)] Tryd.f35 sg_iFilmMat (Tryd.f35.body.getD .skip) = tr_iFilmMat := by kernel_rfl
theorem om_iFilmMat : ΩOK ⟨Tryd.prog, glb, cl_iFilmMat⟩ (specsOf Fs_iFilmMat) := (ΩOK_cons con_iFilmValid Tryd.call50 (ΩOK_cons cong_layerMat Tryd.call69 (ΩOK_cons cong_iMatTimes Tryd.call70 ΩOK_nil)))
theorem con_iFilmMat : ConOK Tryd.prog glb 35 sg_iFilmMat F_iFilmMat.spec := conOK_of om_iFilmMat mixed Tryd.func35 (by kernel_rfl) run_iFilmMat (fun ins K ht h => sat_iFilmMat Tryd.prog ins K ht h.1 h.2)

def sg_sFilmMat : Sig := { args := [.s (.e (.var 0))], pre := [], tin := [.sl, .row .i64 4], gin := [(0, 1, 4)], res := .tu [.ag [.e (.var 0), .e (.var 1), .e (.var 2), .e (.var 3), .e (.var 4), .e (.var 5), .e (.var 6), .e (.var 7), .e (.var 8), .e (.var 9), .e (.var 10), .e (.var 11)], .s (.e (.var 12))], post := [], tout := [.int .i64, .int .i64, .int .i64, .int .i64, .int .i64, .int .i64, .int .i64, .int .i64, .int .i64, .int .i64, .int .i64, .int .i64, .bool], gout := [] }
def cl_sFilmMat : List (Nat × Sig) := [(64, sg_sFilmValid), (63, sg_l5Phase0), (62, sg_l5One), (65, sg_l8Layer), (66, sg_sMatTimes)]
theorem run_sFilmMat : run ⟨Tryd.prog, glb, cl_sFilmMat⟩ [(0, ⟨[(5, .int .i64)], [(1, 0, .int .i64), (1, 1, .int .i64), (1, 2, .int .i64), (1, 3, .int .i64), (1, 4, .int .i64), (1, 5, .int .i64), (1, 6, .int .i64), (1, 7, .int .i64), (1, 8, .int .i64), (1, 9, .int .i64), (1, 10, .int .i64), (1, 11, .int .i64)]⟩)] Tryd.f32 sg_sFilmMat (Tryd.f32.body.getD .skip) = tr_sFilmMat := by kernel_rfl
theorem om_sFilmMat : ΩOK ⟨Tryd.prog, glb, cl_sFilmMat⟩ (specsOf Fs_sFilmMat) := (ΩOK_cons con_sFilmValid Tryd.call64 (ΩOK_cons con_l5Phase0 Tryd.call63 (ΩOK_cons con_l5One Tryd.call62 (ΩOK_cons cong_l8Layer Tryd.call65 (ΩOK_cons cong_sMatTimes Tryd.call66 ΩOK_nil)))))
theorem con_sFilmMat : ConOK Tryd.prog glb 32 sg_sFilmMat F_sFilmMat.spec := conOK_of om_sFilmMat mixed Tryd.func32 (by kernel_rfl) run_sFilmMat (fun ins K ht h => sat_sFilmMat Tryd.prog ins K ht h.1 h.2)

def sg_crossed : Sig := { args := [.s (.sl (.own 0) 0 4 4), .s (.sl (.own 1) 0 4 4)], pre := [⟨[.e (.var 0), .e (.var 1), .e (.var 2), .e (.var 3), .e (.var 4), .e (.var 5), .e (.var 6), .e (.var 7), .e (.var 8), .e (.var 9), .e (.var 10), .e (.var 11)], 52⟩, ⟨[.e (.var 12), .e (.var 13), .e (.var 14), .e (.var 15), .e (.var 16), .e (.var 17), .e (.var 18), .e (.var 19), .e (.var 20), .e (.var 21), .e (.var 22), .e (.var 23)], 52⟩], tin := [.int .i64, .int .i64, .int .i64, .int .i64, .int .i64, .int .i64, .int .i64, .int .i64, .int .i64, .int .i64, .int .i64, .int .i64, .int .i64, .int .i64, .int .i64, .int .i64, .int .i64, .int .i64, .int .i64, .int .i64, .int .i64, .int .i64, .int .i64, .int .i64], gin := [], res := .c (.s (.e (.var 0))), post := [⟨[.e (.var 1), .e (.var 2), .e (.var 3), .e (.var 4), .e (.var 5), .e (.var 6), .e (.var 7), .e (.var 8), .e (.var 9), .e (.var 10), .e (.var 11), .e (.var 12)], 52⟩, ⟨[.e (.var 13), .e (.var 14), .e (.var 15), .e (.var 16), .e (.var 17), .e (.var 18), .e (.var 19), .e (.var 20), .e (.var 21), .e (.var 22), .e (.var 23), .e (.var 24)], 52⟩], tout := [.bool, .int .i64, .int .i64, .int .i64, .int .i64, .int .i64, .int .i64, .int .i64, .int .i64, .int .i64, .int .i64, .int .i64, .int .i64, .int .i64, .int .i64, .int .i64, .int .i64, .int .i64, .int .i64, .int .i64, .int .i64, .int .i64, .int .i64, .int .i64, .int .i64], gout := [] }
def cl_crossed : List (Nat × Sig) := [(45, sg_times)]
theorem run_crossed : run ⟨Tryd.prog, glb, cl_crossed⟩ [] Tryd.f72 sg_crossed (Tryd.f72.body.getD .skip) = tr_crossed := by kernel_rfl
theorem om_crossed : ΩOK ⟨Tryd.prog, glb, cl_crossed⟩ (specsOf Fs_crossed) := (ΩOK_cons cong_times Tryd.call45 ΩOK_nil)
theorem con_crossed : ConOK Tryd.prog glb 72 sg_crossed F_crossed.spec := conOK_tree om_crossed mixed Tryd.func72 (by kernel_rfl) run_crossed
theorem cong_crossed : ConOK Tryd.prog glb 72 sg_crossed G_crossed.spec := con_crossed.as as_crossed

def sg_iMatAlike : Sig := { args := [.ag [.e (.var 0), .e (.var 1), .e (.var 2), .e (.var 3), .e (.var 4), .e (.var 5), .e (.var 6), .e (.var 7), .e (.var 8), .e (.var 9), .e (.var 10), .e (.var 11)], .ag [.e (.var 12), .e (.var 13), .e (.var 14), .e (.var 15), .e (.var 16), .e (.var 17), .e (.var 18), .e (.var 19), .e (.var 20), .e (.var 21), .e (.var 22), .e (.var 23)]], pre := [], tin := [.int .i64, .int .i64, .int .i64, .int .i64, .int .i64, .int .i64, .int .i64, .int .i64, .int .i64, .int .i64, .int .i64, .int .i64, .int .i64, .int .i64, .int .i64, .int .i64, .int .i64, .int .i64, .int .i64, .int .i64, .int .i64, .int .i64, .int .i64, .int .i64], gin := [], res := .c (.s (.e (.var 0))), post := [], tout := [.bool], gout := [] }
def cl_iMatAlike : List (Nat × Sig) := [(71, sg_iMatValid), (72, sg_crossed)]
theorem run_iMatAlike : run ⟨Tryd.prog, glb, cl_iMatAlike⟩ [] Tryd.f36 sg_iMatAlike (Tryd.f36.body.getD .skip) = tr_iMatAlike := by kernel_rfl
theorem om_iMatAlike : ΩOK ⟨Tryd.prog, glb, cl_iMatAlike⟩ (specsOf Fs_iMatAlike) := (ΩOK_cons cong_iMatValid Tryd.call71 (ΩOK_cons cong_crossed Tryd.call72 ΩOK_nil))
theorem con_iMatAlike : ConOK Tryd.prog glb 36 sg_iMatAlike F_iMatAlike.spec := conOK_tree om_iMatAlike mixed Tryd.func36 (by kernel_rfl) run_iMatAlike
theorem cong_iMatAlike : ConOK Tryd.prog glb 36 sg_iMatAlike G_iMatAlike.spec := con_iMatAlike.as as_iMatAlike

def sg_l5Dark : Sig := { args := [.ag [.e (.var 0), .e (.var 1), .e (.var 2), .e (.var 3), .e (.var 4), .e (.var 5), .e (.var 6), .e (.var 7), .e (.var 8), .e (.var 9), .e (.var 10), .e (.var 11)]], pre := [], tin := [.int .i64, .int .i64, .int .i64, .int .i64, .int .i64, .int .i64, .int .i64, .int .i64, .int .i64, .int .i64, .int .i64, .int .i64], gin := [], res := .c (.s (.e (.var 0))), post := [], tout := [.bool], gout := [] }
def cl_l5Dark : List (Nat × Sig) := []
theorem run_l5Dark : run ⟨Tryd.prog, glb, cl_l5Dark⟩ [] Tryd.f68 sg_l5Dark (Tryd.f68.body.getD .skip) = tr_l5Dark := by kernel_rfl
theorem om_l5Dark : ΩOK ⟨Tryd.prog, glb, cl_l5Dark⟩ (specsOf Fs_l5Dark) := ΩOK_nil
theorem con_l5Dark : ConOK Tryd.prog glb 68 sg_l5Dark F_l5Dark.spec := conOK_tree om_l5Dark mixed Tryd.func68 (by kernel_rfl) run_l5Dark
theorem cong_l5Dark : ConOK Tryd.prog glb 68 sg_l5Dark G_l5Dark.spec := con_l5Dark.as as_l5Dark

def sg_sMatAlike : Sig := { args := [.ag [.e (.var 0), .e (.var 1), .e (.var 2), .e (.var 3), .e (.var 4), .e (.var 5), .e (.var 6), .e (.var 7), .e (.var 8), .e (.var 9), .e (.var 10), .e (.var 11)], .ag [.e (.var 12), .e (.var 13), .e (.var 14), .e (.var 15), .e (.var 16), .e (.var 17), .e (.var 18), .e (.var 19), .e (.var 20), .e (.var 21), .e (.var 22), .e (.var 23)]], pre := [], tin := [.int .i64, .int .i64, .int .i64, .int .i64, .int .i64, .int .i64, .int .i64, .int .i64, .int .i64, .int .i64, .int .i64, .int .i64, .int .i64, .int .i64, .int .i64, .int .i64, .int .i64, .int .i64, .int .i64, .int .i64, .int .i64, .int .i64, .int .i64, .int .i64], gin := [], res := .c (.s (.e (.var 0))), post := [], tout := [.bool], gout := [] }
def cl_sMatAlike : List (Nat × Sig) := [(67, sg_sMatValid), (68, sg_l5Dark), (59, sg_sFracTimes)]
theorem run_sMatAlike : run ⟨Tryd.prog, glb, cl_sMatAlike⟩ [] Tryd.f33 sg_sMatAlike (Tryd.f33.body.getD .skip) = tr_sMatAlike := by kernel_rfl
theorem om_sMatAlike : ΩOK ⟨Tryd.prog, glb, cl_sMatAlike⟩ (specsOf Fs_sMatAlike) := (ΩOK_cons cong_sMatValid Tryd.call67 (ΩOK_cons cong_l5Dark Tryd.call68 (ΩOK_cons cong_sFracTimes Tryd.call59 ΩOK_nil)))
theorem con_sMatAlike : ConOK Tryd.prog glb 33 sg_sMatAlike F_sMatAlike.spec := conOK_tree om_sMatAlike mixed Tryd.func33 (by kernel_rfl) run_sMatAlike
theorem cong_sMatAlike : ConOK Tryd.prog glb 33 sg_sMatAlike G_sMatAlike.spec := con_sMatAlike.as as_sMatAlike

def sg_iFilmSame : Sig := { args := [.s (.e (.var 0)), .s (.e (.var 1))], pre := [], tin := [.sl, .sl, .row .i64 4, .row .i64 4], gin := [(0, 2, 4), (1, 3, 4)], res := .c (.s (.e (.var 0))), post := [], tout := [.bool], gout := [] }
def cl_iFilmSame : List (Nat × Sig) := [(35, sg_iFilmMat), (36, sg_iMatAlike)]
theorem run_iFilmSame : run ⟨Tryd.prog, glb, cl_iFilmSame⟩ [] Tryd.f14 sg_iFilmSame (Tryd.f14.body.getD .skip) = tr_iFilmSame := by kernel_rfl
theorem om_iFilmSame : ΩOK ⟨Tryd.prog, glb, cl_iFilmSame⟩ (specsOf Fs_iFilmSame) := (ΩOK_cons con_iFilmMat Tryd.call35 (ΩOK_cons cong_iMatAlike Tryd.call36 ΩOK_nil))
theorem con_iFilmSame : ConOK Tryd.prog glb 14 sg_iFilmSame F_iFilmSame.spec := conOK_tree om_iFilmSame mixed Tryd.func14 (by kernel_rfl) run_iFilmSame
theorem cong_iFilmSame : ConOK Tryd.prog glb 14 sg_iFilmSame G_iFilmSame.spec := con_iFilmSame.as as_iFilmSame

def sg_sFilmSame : Sig := { args := [.s (.e (.var 0)), .s (.e (.var 1))], pre := [], tin := [.sl, .sl, .row .i64 4, .row .i64 4], gin := [(0, 2, 4), (1, 3, 4)], res := .c (.s (.e (.var 0))), post := [], tout := [.bool], gout := [] }
def cl_sFilmSame : List (Nat × Sig) := [(32, sg_sFilmMat), (33, sg_sMatAlike)]
theorem run_sFilmSame : run ⟨Tryd.prog, glb, cl_sFilmSame⟩ [] Tryd.f12 sg_sFilmSame (Tryd.f12.body.getD .skip) = tr_sFilmSame := by kernel_rfl
theorem om_sFilmSame : ΩOK ⟨Tryd.prog, glb, cl_sFilmSame⟩ (specsOf Fs_sFilmSame) := (ΩOK_cons con_sFilmMat Tryd.call32 (ΩOK_cons cong_sMatAlike Tryd.call33 ΩOK_nil))
theorem con_sFilmSame : ConOK Tryd.prog glb 12 sg_sFilmSame F_sFilmSame.spec := conOK_tree om_sFilmSame mixed Tryd.func12 (by kernel_rfl) run_sFilmSame
theorem cong_sFilmSame : ConOK Tryd.prog glb 12 sg_sFilmSame G_sFilmSame.spec := con_sFilmSame.as as_sFilmSame

def sg_FnExactFilmSame : Sig := { args := [.s (.e (.var 0)), .s (.e (.var 1))], pre := [], tin := [.sl, .sl, .row .i64 4, .row .i64 4], gin := [(0, 2, 4), (1, 3, 4)], res := .c (.s (.e (.var 0))), post := [], tout := [.bool], gout := [] }
def cl_FnExactFilmSame : List (Nat × Sig) := [(11, sg_szL), (13, sg_toL), (12, sg_sFilmSame), (14, sg_iFilmSame), (15, sg_eqLayerS)]
theorem run_FnExactFilmSame : run ⟨Tryd.prog, glb, cl_FnExactFilmSame⟩ [] Tryd.f3 sg_FnExactFilmSame (Tryd.f3.body.getD .skip) = tr_FnExactFilmSame := by kernel_rfl
theorem om_FnExactFilmSame : ΩOK ⟨Tryd.prog, glb, cl_FnExactFilmSame⟩ Ss_FnExactFilmSame := (ΩOK_consS con_szL Tryd.call11 (ΩOK_consS con_toL Tryd.call13 (ΩOK_consS cong_sFilmSame Tryd.call12 (ΩOK_consS cong_iFilmSame Tryd.call14 (ΩOK_consS con_eqLayerS Tryd.call15 ΩOK_nilS)))))
theorem con_FnExactFilmSame : ConOK Tryd.prog glb 3 sg_FnExactFilmSame F_FnExactFilmSame.spec := conOK_of om_FnExactFilmSame mixed Tryd.func3 (by kernel_rfl) run_FnExactFilmSame (fun ins K ht h => sat_FnExactFilmSame Tryd.prog ins K ht h.1 h.2)

end Go.Proofs.YtmciikkpfafncaaDoor

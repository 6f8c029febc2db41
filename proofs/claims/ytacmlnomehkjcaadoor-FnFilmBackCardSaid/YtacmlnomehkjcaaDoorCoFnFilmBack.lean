/- The contracts of the functions. -/
import Derived.Test.YtacmlnomehkjcaaDoorChecked
import Derived.Test.YtacmlnomehkjcaaDoorRkAFnFilmBack
import Derived.WalkKit
import Derived.Laws.OwnMore
import Derived.Deep.MidRow
namespace Go.Proofs.YtacmlnomehkjcaaDoor
open Go Go.Sx Go.RowKit
set_option maxRecDepth 100000

def glb : List (Nat × List Sc) := [(1, [.e (.int .i64 (0)), .e (.int .i64 (0)), .e (.int .i64 (1))]), (2, [.e (.int .i64 (0)), .e (.int .i64 (1)), .e (.int .i64 (1))]), (0, [.e (.int .i64 (1)), .e (.int .i64 (0)), .e (.int .i64 (1)), .e (.int .i64 (0)), .e (.int .i64 (0)), .e (.int .i64 (1)), .e (.int .i64 (0)), .e (.int .i64 (0)), .e (.int .i64 (1)), .e (.int .i64 (1)), .e (.int .i64 (0)), .e (.int .i64 (1))])]
theorem mixed : Tryd.prog.follows .mixedOrders = true := by kernel_rfl

def sg_size : Sig := { args := [.s (.e (.var 0))], pre := [], tin := [.int .i64], gin := [], res := .c (.s (.e (.var 0))), post := [], tout := [.int .i64], gout := [] }
def cl_size : List (Nat × Sig) := []
theorem run_size : run ⟨Tryd.prog, glb, cl_size⟩ [] Tryd.f106 sg_size (Tryd.f106.body.getD .skip) = tr_size := by kernel_rfl
theorem om_size : ΩOK ⟨Tryd.prog, glb, cl_size⟩ (specsOf Fs_size) := ΩOK_nil
theorem con_size : ConOK Tryd.prog glb 106 sg_size F_size.spec := conOK_tree om_size mixed Tryd.func106 (by kernel_rfl) run_size

def sg_within : Sig := { args := [.s (.e (.var 0)), .s (.e (.var 1)), .s (.e (.var 2))], pre := [], tin := [.int .i64, .int .i64, .int .i64], gin := [], res := .c (.s (.e (.var 0))), post := [], tout := [.bool], gout := [] }
def cl_within : List (Nat × Sig) := []
theorem run_within : run ⟨Tryd.prog, glb, cl_within⟩ [] Tryd.f48 sg_within (Tryd.f48.body.getD .skip) = tr_within := by kernel_rfl
theorem om_within : ΩOK ⟨Tryd.prog, glb, cl_within⟩ (specsOf Fs_within) := ΩOK_nil
theorem con_within : ConOK Tryd.prog glb 48 sg_within F_within.spec := conOK_tree om_within mixed Tryd.func48 (by kernel_rfl) run_within
theorem cong_within : ConOK Tryd.prog glb 48 sg_within G_within.spec := con_within.as as_within

def sg_l6In : Sig := { args := [.s (.e (.var 0)), .s (.e (.var 1)), .s (.e (.var 2))], pre := [], tin := [.int .i64, .int .i64, .int .i64], gin := [], res := .c (.s (.e (.var 0))), post := [], tout := [.bool], gout := [] }
def cl_l6In : List (Nat × Sig) := []
theorem run_l6In : run ⟨Tryd.prog, glb, cl_l6In⟩ [] Tryd.f45 sg_l6In (Tryd.f45.body.getD .skip) = tr_l6In := by kernel_rfl
theorem om_l6In : ΩOK ⟨Tryd.prog, glb, cl_l6In⟩ (specsOf Fs_l6In) := ΩOK_nil
theorem con_l6In : ConOK Tryd.prog glb 45 sg_l6In F_l6In.spec := conOK_tree om_l6In mixed Tryd.func45 (by kernel_rfl) run_l6In
theorem cong_l6In : ConOK Tryd.prog glb 45 sg_l6In G_l6In.spec := con_l6In.as as_l6In

def sg_l2In : Sig := { args := [.s (.e (.var 0))], pre := [], tin := [.int .i64], gin := [], res := .c (.s (.e (.var 0))), post := [], tout := [.bool], gout := [] }
def cl_l2In : List (Nat × Sig) := [(45, sg_l6In)]
theorem run_l2In : run ⟨Tryd.prog, glb, cl_l2In⟩ [] Tryd.f85 sg_l2In (Tryd.f85.body.getD .skip) = tr_l2In := by kernel_rfl
theorem om_l2In : ΩOK ⟨Tryd.prog, glb, cl_l2In⟩ (specsOf Fs_l2In) := (ΩOK_cons cong_l6In Tryd.call45 ΩOK_nil)
theorem con_l2In : ConOK Tryd.prog glb 85 sg_l2In F_l2In.spec := conOK_tree om_l2In mixed Tryd.func85 (by kernel_rfl) run_l2In
theorem cong_l2In : ConOK Tryd.prog glb 85 sg_l2In G_l2In.spec := con_l2In.as as_l2In

def sg_divisor : Sig := { args := [.s (.e (.var 0)), .s (.e (.var 1))], pre := [], tin := [.int .i64, .int .i64], gin := [], res := .c (.s (.e (.var 0))), post := [], tout := [.int .i64], gout := [] }
def cl_divisor : List (Nat × Sig) := []
theorem run_divisor : run ⟨Tryd.prog, glb, cl_divisor⟩ [(0, ⟨[(0, .int .i64), (1, .int .i64)], [], none⟩)] Tryd.f105 sg_divisor (Tryd.f105.body.getD .skip) = tr_divisor := by kernel_rfl
theorem om_divisor : ΩOK ⟨Tryd.prog, glb, cl_divisor⟩ (specsOf Fs_divisor) := ΩOK_nil
theorem con_divisor : ConOK Tryd.prog glb 105 sg_divisor F_divisor.spec := conOK_of om_divisor mixed Tryd.func105 (by kernel_rfl) run_divisor (fun ins K ht h => sat_divisor Tryd.prog ins K ht h.1 h.2)

def sg_l2Gcd : Sig := { args := [.s (.e (.var 0)), .s (.e (.var 1))], pre := [], tin := [.int .i64, .int .i64], gin := [], res := .c (.s (.e (.var 0))), post := [], tout := [.int .i64], gout := [] }
def cl_l2Gcd : List (Nat × Sig) := []
theorem run_l2Gcd : run ⟨Tryd.prog, glb, cl_l2Gcd⟩ [(0, ⟨[(0, .int .i64), (1, .int .i64)], [], none⟩)] Tryd.f86 sg_l2Gcd (Tryd.f86.body.getD .skip) = tr_l2Gcd := by kernel_rfl
theorem om_l2Gcd : ΩOK ⟨Tryd.prog, glb, cl_l2Gcd⟩ (specsOf Fs_l2Gcd) := ΩOK_nil
theorem con_l2Gcd : ConOK Tryd.prog glb 86 sg_l2Gcd F_l2Gcd.spec := conOK_of om_l2Gcd mixed Tryd.func86 (by kernel_rfl) run_l2Gcd (fun ins K ht h => sat_l2Gcd Tryd.prog ins K ht h.1 h.2)

def sg_lowest : Sig := { args := [.s (.e (.var 0)), .s (.e (.var 1)), .s (.e (.var 2))], pre := [], tin := [.int .i64, .int .i64, .int .i64], gin := [], res := .tu [.ag [.e (.var 0), .e (.var 1), .e (.var 2)], .s (.e (.var 3))], post := [], tout := [.int .i64, .int .i64, .int .i64, .bool], gout := [] }
def cl_lowest : List (Nat × Sig) := [(106, sg_size), (105, sg_divisor), (48, sg_within)]
theorem run_lowest : run ⟨Tryd.prog, glb, cl_lowest⟩ [] Tryd.f112 sg_lowest (Tryd.f112.body.getD .skip) = tr_lowest := by kernel_rfl
theorem om_lowest : ΩOK ⟨Tryd.prog, glb, cl_lowest⟩ (specsOf Fs_lowest) := (ΩOK_cons con_size Tryd.call106 (ΩOK_cons con_divisor Tryd.call105 (ΩOK_cons cong_within Tryd.call48 ΩOK_nil)))
theorem con_lowest : ConOK Tryd.prog glb 112 sg_lowest F_lowest.spec := conOK_tree om_lowest mixed Tryd.func112 (by kernel_rfl) run_lowest
theorem cong_lowest : ConOK Tryd.prog glb 112 sg_lowest G_lowest.spec := con_lowest.as as_lowest

def sg_sFracValid : Sig := { args := [.ag [.e (.var 0), .e (.var 1), .e (.var 2)]], pre := [], tin := [.int .i64, .int .i64, .int .i64], gin := [], res := .c (.s (.e (.var 0))), post := [], tout := [.bool], gout := [] }
def cl_sFracValid : List (Nat × Sig) := [(85, sg_l2In), (45, sg_l6In), (86, sg_l2Gcd)]
theorem run_sFracValid : run ⟨Tryd.prog, glb, cl_sFracValid⟩ [] Tryd.f44 sg_sFracValid (Tryd.f44.body.getD .skip) = tr_sFracValid := by kernel_rfl
theorem om_sFracValid : ΩOK ⟨Tryd.prog, glb, cl_sFracValid⟩ (specsOf Fs_sFracValid) := (ΩOK_cons cong_l2In Tryd.call85 (ΩOK_cons cong_l6In Tryd.call45 (ΩOK_cons con_l2Gcd Tryd.call86 ΩOK_nil)))
theorem con_sFracValid : ConOK Tryd.prog glb 44 sg_sFracValid F_sFracValid.spec := conOK_tree om_sFracValid mixed Tryd.func44 (by kernel_rfl) run_sFracValid
theorem cong_sFracValid : ConOK Tryd.prog glb 44 sg_sFracValid G_sFracValid.spec := con_sFracValid.as as_sFracValid

def sg_l2Low : Sig := { args := [.s (.e (.var 0)), .s (.e (.var 1)), .s (.e (.var 2))], pre := [], tin := [.int .i64, .int .i64, .int .i64], gin := [], res := .tu [.ag [.e (.var 0), .e (.var 1), .e (.var 2)], .s (.e (.var 3))], post := [], tout := [.int .i64, .int .i64, .int .i64, .bool], gout := [] }
def cl_l2Low : List (Nat × Sig) := [(86, sg_l2Gcd), (44, sg_sFracValid)]
theorem run_l2Low : run ⟨Tryd.prog, glb, cl_l2Low⟩ [] Tryd.f108 sg_l2Low (Tryd.f108.body.getD .skip) = tr_l2Low := by kernel_rfl
theorem om_l2Low : ΩOK ⟨Tryd.prog, glb, cl_l2Low⟩ (specsOf Fs_l2Low) := (ΩOK_cons con_l2Gcd Tryd.call86 (ΩOK_cons cong_sFracValid Tryd.call44 ΩOK_nil))
theorem con_l2Low : ConOK Tryd.prog glb 108 sg_l2Low F_l2Low.spec := conOK_tree om_l2Low mixed Tryd.func108 (by kernel_rfl) run_l2Low
theorem cong_l2Low : ConOK Tryd.prog glb 108 sg_l2Low G_l2Low.spec := con_l2Low.as as_l2Low

def sg_iFracValid : Sig := { args := [.ag [.e (.var 0), .e (.var 1), .e (.var 2)]], pre := [], tin := [.int .i64, .int .i64, .int .i64], gin := [], res := .c (.s (.e (.var 0))), post := [], tout := [.bool], gout := [] }
def cl_iFracValid : List (Nat × Sig) := [(48, sg_within), (105, sg_divisor), (106, sg_size)]
theorem run_iFracValid : run ⟨Tryd.prog, glb, cl_iFracValid⟩ [] Tryd.f84 sg_iFracValid (Tryd.f84.body.getD .skip) = tr_iFracValid := by kernel_rfl
theorem om_iFracValid : ΩOK ⟨Tryd.prog, glb, cl_iFracValid⟩ (specsOf Fs_iFracValid) := (ΩOK_cons cong_within Tryd.call48 (ΩOK_cons con_divisor Tryd.call105 (ΩOK_cons con_size Tryd.call106 ΩOK_nil)))
theorem con_iFracValid : ConOK Tryd.prog glb 84 sg_iFracValid F_iFracValid.spec := conOK_tree om_iFracValid mixed Tryd.func84 (by kernel_rfl) run_iFracValid
theorem cong_iFracValid : ConOK Tryd.prog glb 84 sg_iFracValid G_iFracValid.spec := con_iFracValid.as as_iFracValid

def sg_iFracAdd : Sig := { args := [.ag [.e (.var 0), .e (.var 1), .e (.var 2)], .ag [.e (.var 3), .e (.var 4), .e (.var 5)]], pre := [], tin := [.int .i64, .int .i64, .int .i64, .int .i64, .int .i64, .int .i64], gin := [], res := .tu [.ag [.e (.var 0), .e (.var 1), .e (.var 2)], .s (.e (.var 3))], post := [], tout := [.int .i64, .int .i64, .int .i64, .bool], gout := [] }
def cl_iFracAdd : List (Nat × Sig) := [(84, sg_iFracValid), (112, sg_lowest)]
theorem run_iFracAdd : run ⟨Tryd.prog, glb, cl_iFracAdd⟩ [] Tryd.f109 sg_iFracAdd (Tryd.f109.body.getD .skip) = tr_iFracAdd := by kernel_rfl
theorem om_iFracAdd : ΩOK ⟨Tryd.prog, glb, cl_iFracAdd⟩ (specsOf Fs_iFracAdd) := (ΩOK_cons cong_iFracValid Tryd.call84 (ΩOK_cons cong_lowest Tryd.call112 ΩOK_nil))
theorem con_iFracAdd : ConOK Tryd.prog glb 109 sg_iFracAdd F_iFracAdd.spec := conOK_tree om_iFracAdd mixed Tryd.func109 (by kernel_rfl) run_iFracAdd
theorem cong_iFracAdd : ConOK Tryd.prog glb 109 sg_iFracAdd G_iFracAdd.spec := con_iFracAdd.as as_iFracAdd

def sg_iFracTimes : Sig := { args := [.ag [.e (.var 0), .e (.var 1), .e (.var 2)], .ag [.e (.var 3), .e (.var 4), .e (.var 5)]], pre := [], tin := [.int .i64, .int .i64, .int .i64, .int .i64, .int .i64, .int .i64], gin := [], res := .tu [.ag [.e (.var 0), .e (.var 1), .e (.var 2)], .s (.e (.var 3))], post := [], tout := [.int .i64, .int .i64, .int .i64, .bool], gout := [] }
def cl_iFracTimes : List (Nat × Sig) := [(84, sg_iFracValid), (112, sg_lowest)]
theorem run_iFracTimes : run ⟨Tryd.prog, glb, cl_iFracTimes⟩ [] Tryd.f102 sg_iFracTimes (Tryd.f102.body.getD .skip) = tr_iFracTimes := by kernel_rfl
theorem om_iFracTimes : ΩOK ⟨Tryd.prog, glb, cl_iFracTimes⟩ (specsOf Fs_iFracTimes) := (ΩOK_cons cong_iFracValid Tryd.call84 (ΩOK_cons cong_lowest Tryd.call112 ΩOK_nil))
theorem con_iFracTimes : ConOK Tryd.prog glb 102 sg_iFracTimes F_iFracTimes.spec := conOK_tree om_iFracTimes mixed Tryd.func102 (by kernel_rfl) run_iFracTimes
theorem cong_iFracTimes : ConOK Tryd.prog glb 102 sg_iFracTimes G_iFracTimes.spec := con_iFracTimes.as as_iFracTimes

def sg_keep : Sig := { args := [.s (.p (.own 0) 0), .ag [.e (.var 0), .e (.var 1), .e (.var 2)], .s (.e (.var 3))], pre := [⟨[.e (.var 4)], 89⟩], tin := [.int .i64, .int .i64, .int .i64, .bool, .bool], gin := [], res := .c (.ag [.e (.var 0), .e (.var 1), .e (.var 2)]), post := [⟨[.e (.var 3)], 89⟩], tout := [.int .i64, .int .i64, .int .i64, .bool], gout := [] }
def cl_keep : List (Nat × Sig) := []
theorem run_keep : run ⟨Tryd.prog, glb, cl_keep⟩ [] Tryd.f100 sg_keep (Tryd.f100.body.getD .skip) = tr_keep := by kernel_rfl
theorem om_keep : ΩOK ⟨Tryd.prog, glb, cl_keep⟩ (specsOf Fs_keep) := ΩOK_nil
theorem con_keep : ConOK Tryd.prog glb 100 sg_keep F_keep.spec := conOK_tree om_keep mixed Tryd.func100 (by kernel_rfl) run_keep

def sg_add : Sig := { args := [.s (.p (.own 0) 0), .ag [.e (.var 0), .e (.var 1), .e (.var 2)], .ag [.e (.var 3), .e (.var 4), .e (.var 5)]], pre := [⟨[.e (.var 6)], 89⟩], tin := [.int .i64, .int .i64, .int .i64, .int .i64, .int .i64, .int .i64, .bool], gin := [], res := .c (.ag [.e (.var 0), .e (.var 1), .e (.var 2)]), post := [⟨[.e (.var 3)], 89⟩], tout := [.int .i64, .int .i64, .int .i64, .bool], gout := [] }
def cl_add : List (Nat × Sig) := [(109, sg_iFracAdd), (100, sg_keep)]
theorem run_add : run ⟨Tryd.prog, glb, cl_add⟩ [] Tryd.f93 sg_add (Tryd.f93.body.getD .skip) = tr_add := by kernel_rfl
theorem om_add : ΩOK ⟨Tryd.prog, glb, cl_add⟩ (specsOf Fs_add) := (ΩOK_cons cong_iFracAdd Tryd.call109 (ΩOK_cons con_keep Tryd.call100 ΩOK_nil))
theorem con_add : ConOK Tryd.prog glb 93 sg_add F_add.spec := conOK_tree om_add mixed Tryd.func93 (by kernel_rfl) run_add
theorem cong_add : ConOK Tryd.prog glb 93 sg_add G_add.spec := con_add.as as_add

def sg_times : Sig := { args := [.s (.p (.own 0) 0), .ag [.e (.var 0), .e (.var 1), .e (.var 2)], .ag [.e (.var 3), .e (.var 4), .e (.var 5)]], pre := [⟨[.e (.var 6)], 89⟩], tin := [.int .i64, .int .i64, .int .i64, .int .i64, .int .i64, .int .i64, .bool], gin := [], res := .c (.ag [.e (.var 0), .e (.var 1), .e (.var 2)]), post := [⟨[.e (.var 3)], 89⟩], tout := [.int .i64, .int .i64, .int .i64, .bool], gout := [] }
def cl_times : List (Nat × Sig) := [(102, sg_iFracTimes), (100, sg_keep)]
theorem run_times : run ⟨Tryd.prog, glb, cl_times⟩ [] Tryd.f79 sg_times (Tryd.f79.body.getD .skip) = tr_times := by kernel_rfl
theorem om_times : ΩOK ⟨Tryd.prog, glb, cl_times⟩ (specsOf Fs_times) := (ΩOK_cons cong_iFracTimes Tryd.call102 (ΩOK_cons con_keep Tryd.call100 ΩOK_nil))
theorem con_times : ConOK Tryd.prog glb 79 sg_times F_times.spec := conOK_tree om_times mixed Tryd.func79 (by kernel_rfl) run_times
theorem cong_times : ConOK Tryd.prog glb 79 sg_times G_times.spec := con_times.as as_times

def sg_need : Sig := { args := [.s (.p (.own 0) 0), .s (.e (.var 0))], pre := [⟨[.e (.var 1)], 89⟩], tin := [.bool, .bool], gin := [], res := .c (.s (.p (.own 0) 0)), post := [⟨[.e (.var 0)], 89⟩], tout := [.bool], gout := [] }
def cl_need : List (Nat × Sig) := []
theorem run_need : run ⟨Tryd.prog, glb, cl_need⟩ [] Tryd.f75 sg_need (Tryd.f75.body.getD .skip) = tr_need := by kernel_rfl
theorem om_need : ΩOK ⟨Tryd.prog, glb, cl_need⟩ (specsOf Fs_need) := ΩOK_nil
theorem con_need : ConOK Tryd.prog glb 75 sg_need F_need.spec := conOK_tree om_need mixed Tryd.func75 (by kernel_rfl) run_need
theorem cong_need : ConOK Tryd.prog glb 75 sg_need G_need.spec := con_need.as as_need

def sg_iMatValid : Sig := { args := [.ag [.e (.var 0), .e (.var 1), .e (.var 2), .e (.var 3), .e (.var 4), .e (.var 5), .e (.var 6), .e (.var 7), .e (.var 8), .e (.var 9), .e (.var 10), .e (.var 11)]], pre := [], tin := [.int .i64, .int .i64, .int .i64, .int .i64, .int .i64, .int .i64, .int .i64, .int .i64, .int .i64, .int .i64, .int .i64, .int .i64], gin := [], res := .c (.s (.e (.var 0))), post := [], tout := [.bool], gout := [] }
def cl_iMatValid : List (Nat × Sig) := [(84, sg_iFracValid)]
theorem run_iMatValid : run ⟨Tryd.prog, glb, cl_iMatValid⟩ [] Tryd.f76 sg_iMatValid (Tryd.f76.body.getD .skip) = tr_iMatValid := by kernel_rfl
theorem om_iMatValid : ΩOK ⟨Tryd.prog, glb, cl_iMatValid⟩ (specsOf Fs_iMatValid) := (ΩOK_cons cong_iFracValid Tryd.call84 ΩOK_nil)
theorem con_iMatValid : ConOK Tryd.prog glb 76 sg_iMatValid F_iMatValid.spec := conOK_tree om_iMatValid mixed Tryd.func76 (by kernel_rfl) run_iMatValid
theorem cong_iMatValid : ConOK Tryd.prog glb 76 sg_iMatValid G_iMatValid.spec := con_iMatValid.as as_iMatValid

def sg_indexOk : Sig := { args := [.ag [.e (.var 0), .e (.var 1), .e (.var 2)]], pre := [], tin := [.int .i64, .int .i64, .int .i64], gin := [], res := .c (.s (.e (.var 0))), post := [], tout := [.bool], gout := [] }
def cl_indexOk : List (Nat × Sig) := [(84, sg_iFracValid)]
theorem run_indexOk : run ⟨Tryd.prog, glb, cl_indexOk⟩ [] Tryd.f47 sg_indexOk (Tryd.f47.body.getD .skip) = tr_indexOk := by kernel_rfl
theorem om_indexOk : ΩOK ⟨Tryd.prog, glb, cl_indexOk⟩ (specsOf Fs_indexOk) := (ΩOK_cons cong_iFracValid Tryd.call84 ΩOK_nil)
theorem con_indexOk : ConOK Tryd.prog glb 47 sg_indexOk F_indexOk.spec := conOK_tree om_indexOk mixed Tryd.func47 (by kernel_rfl) run_indexOk
theorem cong_indexOk : ConOK Tryd.prog glb 47 sg_indexOk G_indexOk.spec := con_indexOk.as as_indexOk

def sg_iFilmValid : Sig := { args := [.s (.e (.var 0))], pre := [], tin := [.sl, .row .i64 4], gin := [(0, 1, 4)], res := .c (.s (.e (.var 0))), post := [], tout := [.bool], gout := [] }
def cl_iFilmValid : List (Nat × Sig) := [(47, sg_indexOk), (48, sg_within)]
theorem run_iFilmValid : run ⟨Tryd.prog, glb, cl_iFilmValid⟩ [(0, ⟨[(7, .int .i64)], [], none⟩)] Tryd.f16 sg_iFilmValid (Tryd.f16.body.getD .skip) = tr_iFilmValid := by kernel_rfl
theorem om_iFilmValid : ΩOK ⟨Tryd.prog, glb, cl_iFilmValid⟩ (specsOf Fs_iFilmValid) := (ΩOK_cons cong_indexOk Tryd.call47 (ΩOK_cons cong_within Tryd.call48 ΩOK_nil))
theorem con_iFilmValid : ConOK Tryd.prog glb 16 sg_iFilmValid F_iFilmValid.spec := conOK_of om_iFilmValid mixed Tryd.func16 (by kernel_rfl) run_iFilmValid (fun ins K ht h => sat_iFilmValid Tryd.prog ins K ht h.1 h.2)

def sg_sFilmValid : Sig := { args := [.s (.e (.var 0))], pre := [], tin := [.sl, .row .i64 4], gin := [(0, 1, 4)], res := .c (.s (.e (.var 0))), post := [], tout := [.bool], gout := [] }
def cl_sFilmValid : List (Nat × Sig) := [(44, sg_sFracValid), (45, sg_l6In)]
theorem run_sFilmValid : run ⟨Tryd.prog, glb, cl_sFilmValid⟩ [(0, ⟨[(3, .int .i64)], [], none⟩)] Tryd.f14 sg_sFilmValid (Tryd.f14.body.getD .skip) = tr_sFilmValid := by kernel_rfl
theorem om_sFilmValid : ΩOK ⟨Tryd.prog, glb, cl_sFilmValid⟩ (specsOf Fs_sFilmValid) := (ΩOK_cons cong_sFracValid Tryd.call44 (ΩOK_cons cong_l6In Tryd.call45 ΩOK_nil))
theorem con_sFilmValid : ConOK Tryd.prog glb 14 sg_sFilmValid F_sFilmValid.spec := conOK_of om_sFilmValid mixed Tryd.func14 (by kernel_rfl) run_sFilmValid (fun ins K ht h => sat_sFilmValid Tryd.prog ins K ht h.1 h.2)

def sg_mcell00 : Sig := { args := [.s (.e (.int .i64 (0))), .s (.e (.int .i64 (0))), .s (.p (.own 0) 0), .s (.p (.own 1) 0), .s (.p (.own 2) 0)], pre := [⟨[.p (.own 3) 0], 87⟩, ⟨[.e (.var 0), .e (.var 1), .e (.var 2), .e (.var 3), .e (.var 4), .e (.var 5), .e (.var 6), .e (.var 7), .e (.var 8), .e (.var 9), .e (.var 10), .e (.var 11)], 50⟩, ⟨[.e (.var 12), .e (.var 13), .e (.var 14), .e (.var 15), .e (.var 16), .e (.var 17), .e (.var 18), .e (.var 19), .e (.var 20), .e (.var 21), .e (.var 22), .e (.var 23)], 50⟩, ⟨[.e (.var 24)], 89⟩], tin := [.int .i64, .int .i64, .int .i64, .int .i64, .int .i64, .int .i64, .int .i64, .int .i64, .int .i64, .int .i64, .int .i64, .int .i64, .int .i64, .int .i64, .int .i64, .int .i64, .int .i64, .int .i64, .int .i64, .int .i64, .int .i64, .int .i64, .int .i64, .int .i64, .bool], gin := [], res := .c (.ag [.e (.var 0), .e (.var 1), .e (.var 2)]), post := [⟨[.p (.own 3) 0], 87⟩, ⟨[.e (.var 3), .e (.var 4), .e (.var 5), .e (.var 6), .e (.var 7), .e (.var 8), .e (.var 9), .e (.var 10), .e (.var 11), .e (.var 12), .e (.var 13), .e (.var 14)], 50⟩, ⟨[.e (.var 15), .e (.var 16), .e (.var 17), .e (.var 18), .e (.var 19), .e (.var 20), .e (.var 21), .e (.var 22), .e (.var 23), .e (.var 24), .e (.var 25), .e (.var 26)], 50⟩, ⟨[.e (.var 27)], 89⟩], tout := [.int .i64, .int .i64, .int .i64, .int .i64, .int .i64, .int .i64, .int .i64, .int .i64, .int .i64, .int .i64, .int .i64, .int .i64, .int .i64, .int .i64, .int .i64, .int .i64, .int .i64, .int .i64, .int .i64, .int .i64, .int .i64, .int .i64, .int .i64, .int .i64, .int .i64, .int .i64, .int .i64, .bool], gout := [] }
def cl_mcell00 : List (Nat × Sig) := [(79, sg_times), (93, sg_add)]
theorem run_mcell00 : run ⟨Tryd.prog, glb, cl_mcell00⟩ [] Tryd.f92 sg_mcell00 (Tryd.f92.body.getD .skip) = tr_mcell00 := by kernel_rfl
theorem om_mcell00 : ΩOK ⟨Tryd.prog, glb, cl_mcell00⟩ (specsOf Fs_mcell00) := (ΩOK_cons cong_times Tryd.call79 (ΩOK_cons cong_add Tryd.call93 ΩOK_nil))
theorem con_mcell00 : ConOK Tryd.prog glb 92 sg_mcell00 F_mcell00.spec := conOK_tree om_mcell00 mixed Tryd.func92 (by kernel_rfl) run_mcell00
theorem cong_mcell00 : ConOK Tryd.prog glb 92 sg_mcell00 G_mcell00.spec := con_mcell00.as as_mcell00

def sg_mcell01 : Sig := { args := [.s (.e (.int .i64 (0))), .s (.e (.int .i64 (1))), .s (.p (.own 0) 0), .s (.p (.own 1) 0), .s (.p (.own 2) 0)], pre := [⟨[.p (.own 3) 0], 87⟩, ⟨[.e (.var 0), .e (.var 1), .e (.var 2), .e (.var 3), .e (.var 4), .e (.var 5), .e (.var 6), .e (.var 7), .e (.var 8), .e (.var 9), .e (.var 10), .e (.var 11)], 50⟩, ⟨[.e (.var 12), .e (.var 13), .e (.var 14), .e (.var 15), .e (.var 16), .e (.var 17), .e (.var 18), .e (.var 19), .e (.var 20), .e (.var 21), .e (.var 22), .e (.var 23)], 50⟩, ⟨[.e (.var 24)], 89⟩], tin := [.int .i64, .int .i64, .int .i64, .int .i64, .int .i64, .int .i64, .int .i64, .int .i64, .int .i64, .int .i64, .int .i64, .int .i64, .int .i64, .int .i64, .int .i64, .int .i64, .int .i64, .int .i64, .int .i64, .int .i64, .int .i64, .int .i64, .int .i64, .int .i64, .bool], gin := [], res := .c (.ag [.e (.var 0), .e (.var 1), .e (.var 2)]), post := [⟨[.p (.own 3) 0], 87⟩, ⟨[.e (.var 3), .e (.var 4), .e (.var 5), .e (.var 6), .e (.var 7), .e (.var 8), .e (.var 9), .e (.var 10), .e (.var 11), .e (.var 12), .e (.var 13), .e (.var 14)], 50⟩, ⟨[.e (.var 15), .e (.var 16), .e (.var 17), .e (.var 18), .e (.var 19), .e (.var 20), .e (.var 21), .e (.var 22), .e (.var 23), .e (.var 24), .e (.var 25), .e (.var 26)], 50⟩, ⟨[.e (.var 27)], 89⟩], tout := [.int .i64, .int .i64, .int .i64, .int .i64, .int .i64, .int .i64, .int .i64, .int .i64, .int .i64, .int .i64, .int .i64, .int .i64, .int .i64, .int .i64, .int .i64, .int .i64, .int .i64, .int .i64, .int .i64, .int .i64, .int .i64, .int .i64, .int .i64, .int .i64, .int .i64, .int .i64, .int .i64, .bool], gout := [] }
def cl_mcell01 : List (Nat × Sig) := [(79, sg_times), (93, sg_add)]
theorem run_mcell01 : run ⟨Tryd.prog, glb, cl_mcell01⟩ [] Tryd.f92 sg_mcell01 (Tryd.f92.body.getD .skip) = tr_mcell01 := by kernel_rfl
theorem om_mcell01 : ΩOK ⟨Tryd.prog, glb, cl_mcell01⟩ (specsOf Fs_mcell01) := (ΩOK_cons cong_times Tryd.call79 (ΩOK_cons cong_add Tryd.call93 ΩOK_nil))
theorem con_mcell01 : ConOK Tryd.prog glb 92 sg_mcell01 F_mcell01.spec := conOK_tree om_mcell01 mixed Tryd.func92 (by kernel_rfl) run_mcell01
theorem cong_mcell01 : ConOK Tryd.prog glb 92 sg_mcell01 G_mcell01.spec := con_mcell01.as as_mcell01

def sg_mcell10 : Sig := { args := [.s (.e (.int .i64 (1))), .s (.e (.int .i64 (0))), .s (.p (.own 0) 0), .s (.p (.own 1) 0), .s (.p (.own 2) 0)], pre := [⟨[.p (.own 3) 0], 87⟩, ⟨[.e (.var 0), .e (.var 1), .e (.var 2), .e (.var 3), .e (.var 4), .e (.var 5), .e (.var 6), .e (.var 7), .e (.var 8), .e (.var 9), .e (.var 10), .e (.var 11)], 50⟩, ⟨[.e (.var 12), .e (.var 13), .e (.var 14), .e (.var 15), .e (.var 16), .e (.var 17), .e (.var 18), .e (.var 19), .e (.var 20), .e (.var 21), .e (.var 22), .e (.var 23)], 50⟩, ⟨[.e (.var 24)], 89⟩], tin := [.int .i64, .int .i64, .int .i64, .int .i64, .int .i64, .int .i64, .int .i64, .int .i64, .int .i64, .int .i64, .int .i64, .int .i64, .int .i64, .int .i64, .int .i64, .int .i64, .int .i64, .int .i64, .int .i64, .int .i64, .int .i64, .int .i64, .int .i64, .int .i64, .bool], gin := [], res := .c (.ag [.e (.var 0), .e (.var 1), .e (.var 2)]), post := [⟨[.p (.own 3) 0], 87⟩, ⟨[.e (.var 3), .e (.var 4), .e (.var 5), .e (.var 6), .e (.var 7), .e (.var 8), .e (.var 9), .e (.var 10), .e (.var 11), .e (.var 12), .e (.var 13), .e (.var 14)], 50⟩, ⟨[.e (.var 15), .e (.var 16), .e (.var 17), .e (.var 18), .e (.var 19), .e (.var 20), .e (.var 21), .e (.var 22), .e (.var 23), .e (.var 24), .e (.var 25), .e (.var 26)], 50⟩, ⟨[.e (.var 27)], 89⟩], tout := [.int .i64, .int .i64, .int .i64, .int .i64, .int .i64, .int .i64, .int .i64, .int .i64, .int .i64, .int .i64, .int .i64, .int .i64, .int .i64, .int .i64, .int .i64, .int .i64, .int .i64, .int .i64, .int .i64, .int .i64, .int .i64, .int .i64, .int .i64, .int .i64, .int .i64, .int .i64, .int .i64, .bool], gout := [] }
def cl_mcell10 : List (Nat × Sig) := [(79, sg_times), (93, sg_add)]
theorem run_mcell10 : run ⟨Tryd.prog, glb, cl_mcell10⟩ [] Tryd.f92 sg_mcell10 (Tryd.f92.body.getD .skip) = tr_mcell10 := by kernel_rfl
theorem om_mcell10 : ΩOK ⟨Tryd.prog, glb, cl_mcell10⟩ (specsOf Fs_mcell10) := (ΩOK_cons cong_times Tryd.call79 (ΩOK_cons cong_add Tryd.call93 ΩOK_nil))
theorem con_mcell10 : ConOK Tryd.prog glb 92 sg_mcell10 F_mcell10.spec := conOK_tree om_mcell10 mixed Tryd.func92 (by kernel_rfl) run_mcell10
theorem cong_mcell10 : ConOK Tryd.prog glb 92 sg_mcell10 G_mcell10.spec := con_mcell10.as as_mcell10

def sg_mcell11 : Sig := { args := [.s (.e (.int .i64 (1))), .s (.e (.int .i64 (1))), .s (.p (.own 0) 0), .s (.p (.own 1) 0), .s (.p (.own 2) 0)], pre := [⟨[.p (.own 3) 0], 87⟩, ⟨[.e (.var 0), .e (.var 1), .e (.var 2), .e (.var 3), .e (.var 4), .e (.var 5), .e (.var 6), .e (.var 7), .e (.var 8), .e (.var 9), .e (.var 10), .e (.var 11)], 50⟩, ⟨[.e (.var 12), .e (.var 13), .e (.var 14), .e (.var 15), .e (.var 16), .e (.var 17), .e (.var 18), .e (.var 19), .e (.var 20), .e (.var 21), .e (.var 22), .e (.var 23)], 50⟩, ⟨[.e (.var 24)], 89⟩], tin := [.int .i64, .int .i64, .int .i64, .int .i64, .int .i64, .int .i64, .int .i64, .int .i64, .int .i64, .int .i64, .int .i64, .int .i64, .int .i64, .int .i64, .int .i64, .int .i64, .int .i64, .int .i64, .int .i64, .int .i64, .int .i64, .int .i64, .int .i64, .int .i64, .bool], gin := [], res := .c (.ag [.e (.var 0), .e (.var 1), .e (.var 2)]), post := [⟨[.p (.own 3) 0], 87⟩, ⟨[.e (.var 3), .e (.var 4), .e (.var 5), .e (.var 6), .e (.var 7), .e (.var 8), .e (.var 9), .e (.var 10), .e (.var 11), .e (.var 12), .e (.var 13), .e (.var 14)], 50⟩, ⟨[.e (.var 15), .e (.var 16), .e (.var 17), .e (.var 18), .e (.var 19), .e (.var 20), .e (.var 21), .e (.var 22), .e (.var 23), .e (.var 24), .e (.var 25), .e (.var 26)], 50⟩, ⟨[.e (.var 27)], 89⟩], tout := [.int .i64, .int .i64, .int .i64, .int .i64, .int .i64, .int .i64, .int .i64, .int .i64, .int .i64, .int .i64, .int .i64, .int .i64, .int .i64, .int .i64, .int .i64, .int .i64, .int .i64, .int .i64, .int .i64, .int .i64, .int .i64, .int .i64, .int .i64, .int .i64, .int .i64, .int .i64, .int .i64, .bool], gout := [] }
def cl_mcell11 : List (Nat × Sig) := [(79, sg_times), (93, sg_add)]
theorem run_mcell11 : run ⟨Tryd.prog, glb, cl_mcell11⟩ [] Tryd.f92 sg_mcell11 (Tryd.f92.body.getD .skip) = tr_mcell11 := by kernel_rfl
theorem om_mcell11 : ΩOK ⟨Tryd.prog, glb, cl_mcell11⟩ (specsOf Fs_mcell11) := (ΩOK_cons cong_times Tryd.call79 (ΩOK_cons cong_add Tryd.call93 ΩOK_nil))
theorem con_mcell11 : ConOK Tryd.prog glb 92 sg_mcell11 F_mcell11.spec := conOK_tree om_mcell11 mixed Tryd.func92 (by kernel_rfl) run_mcell11
theorem cong_mcell11 : ConOK Tryd.prog glb 92 sg_mcell11 G_mcell11.spec := con_mcell11.as as_mcell11

def sg_gotMat : Sig := { args := [.s (.p (.own 0) 0), .ag [.e (.var 0), .e (.var 1), .e (.var 2), .e (.var 3), .e (.var 4), .e (.var 5), .e (.var 6), .e (.var 7), .e (.var 8), .e (.var 9), .e (.var 10), .e (.var 11)]], pre := [⟨[.e (.var 12)], 89⟩], tin := [.int .i64, .int .i64, .int .i64, .int .i64, .int .i64, .int .i64, .int .i64, .int .i64, .int .i64, .int .i64, .int .i64, .int .i64, .bool], gin := [], res := .tu [.ag [.e (.var 0), .e (.var 1), .e (.var 2), .e (.var 3), .e (.var 4), .e (.var 5), .e (.var 6), .e (.var 7), .e (.var 8), .e (.var 9), .e (.var 10), .e (.var 11)], .s (.e (.var 12))], post := [⟨[.e (.var 13)], 89⟩], tout := [.int .i64, .int .i64, .int .i64, .int .i64, .int .i64, .int .i64, .int .i64, .int .i64, .int .i64, .int .i64, .int .i64, .int .i64, .bool, .bool], gout := [] }
def cl_gotMat : List (Nat × Sig) := []
theorem run_gotMat : run ⟨Tryd.prog, glb, cl_gotMat⟩ [] Tryd.f94 sg_gotMat (Tryd.f94.body.getD .skip) = tr_gotMat := by kernel_rfl
theorem om_gotMat : ΩOK ⟨Tryd.prog, glb, cl_gotMat⟩ (specsOf Fs_gotMat) := ΩOK_nil
theorem con_gotMat : ConOK Tryd.prog glb 94 sg_gotMat F_gotMat.spec := conOK_tree om_gotMat mixed Tryd.func94 (by kernel_rfl) run_gotMat
theorem cong_gotMat : ConOK Tryd.prog glb 94 sg_gotMat G_gotMat.spec := con_gotMat.as as_gotMat

def sg_iMatTimes : Sig := { args := [.ag [.e (.var 0), .e (.var 1), .e (.var 2), .e (.var 3), .e (.var 4), .e (.var 5), .e (.var 6), .e (.var 7), .e (.var 8), .e (.var 9), .e (.var 10), .e (.var 11)], .ag [.e (.var 12), .e (.var 13), .e (.var 14), .e (.var 15), .e (.var 16), .e (.var 17), .e (.var 18), .e (.var 19), .e (.var 20), .e (.var 21), .e (.var 22), .e (.var 23)]], pre := [], tin := [.int .i64, .int .i64, .int .i64, .int .i64, .int .i64, .int .i64, .int .i64, .int .i64, .int .i64, .int .i64, .int .i64, .int .i64, .int .i64, .int .i64, .int .i64, .int .i64, .int .i64, .int .i64, .int .i64, .int .i64, .int .i64, .int .i64, .int .i64, .int .i64], gin := [], res := .tu [.ag [.e (.var 0), .e (.var 1), .e (.var 2), .e (.var 3), .e (.var 4), .e (.var 5), .e (.var 6), .e (.var 7), .e (.var 8), .e (.var 9), .e (.var 10), .e (.var 11)], .s (.e (.var 12))], post := [], tout := [.int .i64, .int .i64, .int .i64, .int .i64, .int .i64, .int .i64, .int .i64, .int .i64, .int .i64, .int .i64, .int .i64, .int .i64, .bool], gout := [] }
def cl_iMatTimes : List (Nat × Sig) := [(76, sg_iMatValid), (75, sg_need), (92, sg_mcell00), (92, sg_mcell01), (92, sg_mcell10), (92, sg_mcell11), (94, sg_gotMat)]
theorem run_iMatTimes : run ⟨Tryd.prog, glb, cl_iMatTimes⟩ [] Tryd.f69 sg_iMatTimes (Tryd.f69.body.getD .skip) = tr_iMatTimes := by kernel_rfl
theorem om_iMatTimes : ΩOK ⟨Tryd.prog, glb, cl_iMatTimes⟩ (specsOf Fs_iMatTimes) := (ΩOK_cons cong_iMatValid Tryd.call76 (ΩOK_cons cong_need Tryd.call75 (ΩOK_cons cong_mcell00 Tryd.call92 (ΩOK_cons cong_mcell01 Tryd.call92 (ΩOK_cons cong_mcell10 Tryd.call92 (ΩOK_cons cong_mcell11 Tryd.call92 (ΩOK_cons cong_gotMat Tryd.call94 ΩOK_nil)))))))
theorem con_iMatTimes : ConOK Tryd.prog glb 69 sg_iMatTimes F_iMatTimes.spec := conOK_tree om_iMatTimes mixed Tryd.func69 (by kernel_rfl) run_iMatTimes
theorem cong_iMatTimes : ConOK Tryd.prog glb 69 sg_iMatTimes G_iMatTimes.spec := con_iMatTimes.as as_iMatTimes

def sg_wholeM : Sig := { args := [.s (.e (.int .i64 (-1)))], pre := [], tin := [], gin := [], res := .c (.ag [.e (.int .i64 (-1)), .e (.int .i64 (0)), .e (.int .i64 (1))]), post := [], tout := [], gout := [] }
def cl_wholeM : List (Nat × Sig) := []
theorem run_wholeM : run ⟨Tryd.prog, glb, cl_wholeM⟩ [] Tryd.f90 sg_wholeM (Tryd.f90.body.getD .skip) = tr_wholeM := by kernel_rfl
theorem om_wholeM : ΩOK ⟨Tryd.prog, glb, cl_wholeM⟩ (specsOf Fs_wholeM) := ΩOK_nil
theorem con_wholeM : ConOK Tryd.prog glb 90 sg_wholeM F_wholeM.spec := conOK_tree om_wholeM mixed Tryd.func90 (by kernel_rfl) run_wholeM

def sg_iMatScaleM : Sig := { args := [.ag [.e (.var 0), .e (.var 1), .e (.var 2), .e (.var 3), .e (.var 4), .e (.var 5), .e (.var 6), .e (.var 7), .e (.var 8), .e (.var 9), .e (.var 10), .e (.var 11)], .ag [.e (.int .i64 (-1)), .e (.int .i64 (0)), .e (.int .i64 (1))]], pre := [], tin := [.int .i64, .int .i64, .int .i64, .int .i64, .int .i64, .int .i64, .int .i64, .int .i64, .int .i64, .int .i64, .int .i64, .int .i64], gin := [], res := .tu [.ag [.e (.var 0), .e (.var 1), .e (.var 2), .e (.var 3), .e (.var 4), .e (.var 5), .e (.var 6), .e (.var 7), .e (.var 8), .e (.var 9), .e (.var 10), .e (.var 11)], .s (.e (.var 12))], post := [], tout := [.int .i64, .int .i64, .int .i64, .int .i64, .int .i64, .int .i64, .int .i64, .int .i64, .int .i64, .int .i64, .int .i64, .int .i64, .bool], gout := [] }
def cl_iMatScaleM : List (Nat × Sig) := [(76, sg_iMatValid), (84, sg_iFracValid), (75, sg_need), (79, sg_times), (94, sg_gotMat)]
theorem run_iMatScaleM : run ⟨Tryd.prog, glb, cl_iMatScaleM⟩ [] Tryd.f91 sg_iMatScaleM (Tryd.f91.body.getD .skip) = tr_iMatScaleM := by kernel_rfl
theorem om_iMatScaleM : ΩOK ⟨Tryd.prog, glb, cl_iMatScaleM⟩ (specsOf Fs_iMatScaleM) := (ΩOK_cons cong_iMatValid Tryd.call76 (ΩOK_cons cong_iFracValid Tryd.call84 (ΩOK_cons cong_need Tryd.call75 (ΩOK_cons cong_times Tryd.call79 (ΩOK_cons cong_gotMat Tryd.call94 ΩOK_nil)))))
theorem con_iMatScaleM : ConOK Tryd.prog glb 91 sg_iMatScaleM F_iMatScaleM.spec := conOK_tree om_iMatScaleM mixed Tryd.func91 (by kernel_rfl) run_iMatScaleM
theorem cong_iMatScaleM : ConOK Tryd.prog glb 91 sg_iMatScaleM G_iMatScaleM.spec := con_iMatScaleM.as as_iMatScaleM

def sg_iFracOver : Sig := { args := [.ag [.e (.var 0), .e (.var 1), .e (.var 2)], .ag [.e (.var 3), .e (.var 4), .e (.var 5)]], pre := [], tin := [.int .i64, .int .i64, .int .i64, .int .i64, .int .i64, .int .i64], gin := [], res := .tu [.ag [.e (.var 0), .e (.var 1), .e (.var 2)], .s (.e (.var 3))], post := [], tout := [.int .i64, .int .i64, .int .i64, .bool], gout := [] }
def cl_iFracOver : List (Nat × Sig) := [(84, sg_iFracValid), (112, sg_lowest), (102, sg_iFracTimes)]
theorem run_iFracOver : run ⟨Tryd.prog, glb, cl_iFracOver⟩ [] Tryd.f104 sg_iFracOver (Tryd.f104.body.getD .skip) = tr_iFracOver := by kernel_rfl
theorem om_iFracOver : ΩOK ⟨Tryd.prog, glb, cl_iFracOver⟩ (specsOf Fs_iFracOver) := (ΩOK_cons cong_iFracValid Tryd.call84 (ΩOK_cons cong_lowest Tryd.call112 (ΩOK_cons cong_iFracTimes Tryd.call102 ΩOK_nil)))
theorem con_iFracOver : ConOK Tryd.prog glb 104 sg_iFracOver F_iFracOver.spec := conOK_tree om_iFracOver mixed Tryd.func104 (by kernel_rfl) run_iFracOver
theorem cong_iFracOver : ConOK Tryd.prog glb 104 sg_iFracOver G_iFracOver.spec := con_iFracOver.as as_iFracOver

def sg_over : Sig := { args := [.s (.p (.own 0) 0), .ag [.e (.var 0), .e (.var 1), .e (.var 2)], .ag [.e (.var 3), .e (.var 4), .e (.var 5)]], pre := [⟨[.e (.var 6)], 89⟩], tin := [.int .i64, .int .i64, .int .i64, .int .i64, .int .i64, .int .i64, .bool], gin := [], res := .c (.ag [.e (.var 0), .e (.var 1), .e (.var 2)]), post := [⟨[.e (.var 3)], 89⟩], tout := [.int .i64, .int .i64, .int .i64, .bool], gout := [] }
def cl_over : List (Nat × Sig) := [(104, sg_iFracOver), (100, sg_keep)]
theorem run_over : run ⟨Tryd.prog, glb, cl_over⟩ [] Tryd.f83 sg_over (Tryd.f83.body.getD .skip) = tr_over := by kernel_rfl
theorem om_over : ΩOK ⟨Tryd.prog, glb, cl_over⟩ (specsOf Fs_over) := (ΩOK_cons cong_iFracOver Tryd.call104 (ΩOK_cons con_keep Tryd.call100 ΩOK_nil))
theorem con_over : ConOK Tryd.prog glb 83 sg_over F_over.spec := conOK_tree om_over mixed Tryd.func83 (by kernel_rfl) run_over
theorem cong_over : ConOK Tryd.prog glb 83 sg_over G_over.spec := con_over.as as_over

def sg_layerMat : Sig := { args := [.ag [.e (.var 0), .e (.var 1), .e (.var 2), .e (.var 3)]], pre := [], tin := [.int .i64, .int .i64, .int .i64, .int .i64], gin := [], res := .tu [.ag [.e (.var 0), .e (.var 1), .e (.var 2), .e (.var 3), .e (.var 4), .e (.var 5), .e (.var 6), .e (.var 7), .e (.var 8), .e (.var 9), .e (.var 10), .e (.var 11)], .s (.e (.var 12))], post := [], tout := [.int .i64, .int .i64, .int .i64, .int .i64, .int .i64, .int .i64, .int .i64, .int .i64, .int .i64, .int .i64, .int .i64, .int .i64, .bool], gout := [] }
def cl_layerMat : List (Nat × Sig) := [(90, sg_wholeM), (83, sg_over), (79, sg_times), (91, sg_iMatScaleM)]
theorem run_layerMat : run ⟨Tryd.prog, glb, cl_layerMat⟩ [] Tryd.f68 sg_layerMat (Tryd.f68.body.getD .skip) = tr_layerMat := by kernel_rfl
theorem om_layerMat : ΩOK ⟨Tryd.prog, glb, cl_layerMat⟩ (specsOf Fs_layerMat) := (ΩOK_cons con_wholeM Tryd.call90 (ΩOK_cons cong_over Tryd.call83 (ΩOK_cons cong_times Tryd.call79 (ΩOK_cons cong_iMatScaleM Tryd.call91 ΩOK_nil))))
theorem con_layerMat : ConOK Tryd.prog glb 68 sg_layerMat F_layerMat.spec := conOK_tree om_layerMat mixed Tryd.func68 (by kernel_rfl) run_layerMat
theorem cong_layerMat : ConOK Tryd.prog glb 68 sg_layerMat G_layerMat.spec := con_layerMat.as as_layerMat

def sg_iFilmMat : Sig := { args := [.s (.e (.var 0))], pre := [], tin := [.sl, .row .i64 4], gin := [(0, 1, 4)], res := .tu [.ag [.e (.var 0), .e (.var 1), .e (.var 2), .e (.var 3), .e (.var 4), .e (.var 5), .e (.var 6), .e (.var 7), .e (.var 8), .e (.var 9), .e (.var 10), .e (.var 11)], .s (.e (.var 12))], post := [], tout := [.int .i64, .int .i64, .int .i64, .int .i64, .int .i64, .int .i64, .int .i64, .int .i64, .int .i64, .int .i64, .int .i64, .int .i64, .bool], gout := [] }
def cl_iFilmMat : List (Nat × Sig) := [(16, sg_iFilmValid), (68, sg_layerMat), (69, sg_iMatTimes)]
theorem run_iFilmMat : run ⟨Tryd.prog, glb, cl_iFilmMat⟩ [(0, ⟨[(18, .int .i64)], [(1, 0, .int .i64), (1, 1, .int .i64), (1, 2, .int .i64), (1, 3, .int .i64), (1, 4, .int .i64), (1, 5, .int .i64), (1, 6, .int .i64), (1, 7, .int .i64), (1, 8, .int .i64), (1, 9, .int .i64), (1, 10, .int .i64), (1, 11, .int .i64)], none⟩)] Tryd.f29 sg_iFilmMat (Tryd.f29.body.getD .skip) = tr_iFilmMat := by kernel_rfl
theorem om_iFilmMat : ΩOK ⟨Tryd.prog, glb, cl_iFilmMat⟩ (specsOf Fs_iFilmMat) := (ΩOK_cons con_iFilmValid Tryd.call16 (ΩOK_cons cong_layerMat Tryd.call68 (ΩOK_cons cong_iMatTimes Tryd.call69 ΩOK_nil)))
theorem con_iFilmMat : ConOK Tryd.prog glb 29 sg_iFilmMat F_iFilmMat.spec := conOK_of om_iFilmMat mixed Tryd.func29 (by kernel_rfl) run_iFilmMat (fun ins K ht h => sat_iFilmMat Tryd.prog ins K ht h.1 h.2)

def sg_pick : Sig := { args := [.s (.p (.own 0) 0), .s (.e (.var 0))], pre := [⟨[.e (.var 1), .e (.var 2)], 103⟩], tin := [.int .i64, .sl, .int .i64, .row .u8 1], gin := [(1, 3, 1)], res := .c (.s (.e (.var 0))), post := [⟨[.e (.var 1), .e (.var 2)], 103⟩], tout := [.int .i64, .sl, .int .i64], gout := [] }
def cl_pick : List (Nat × Sig) := []
theorem run_pick : run ⟨Tryd.prog, glb, cl_pick⟩ [] Tryd.f88 sg_pick (Tryd.f88.body.getD .skip) = tr_pick := by kernel_rfl
theorem om_pick : ΩOK ⟨Tryd.prog, glb, cl_pick⟩ (specsOf Fs_pick) := ΩOK_nil
theorem con_pick : ConOK Tryd.prog glb 88 sg_pick F_pick.spec := conOK_tree om_pick mixed Tryd.func88 (by kernel_rfl) run_pick

def sg_pickC : Sig := { args := [.s (.p (.own 0) 0), .s (.e (.var 0))], pre := [⟨[.e (.var 1), .e (.var 2)], 103⟩], tin := [.int .i64, .sl, .int .i64], gin := [], res := .c (.s (.e (.var 0))), post := [⟨[.e (.var 1), .e (.var 2)], 103⟩], tout := [.int .i64, .sl, .int .i64], gout := [] }
theorem con_pickC {cb : CodeB} (hk : CodeOk cb) (hG : Known cb (glb ++ cb.tail)) : ConOK Tryd.prog (glb ++ cb.tail) 88 sg_pickC (G_pick cb).spec := conOK_ghost (t := 103) hk hG con_pick.more (ghost_pick hk)


def sg_openC : Sig := { args := [.s (.e (.var 0))], pre := [], tin := [.sl], gin := [], res := .c (.s (.p (.own 0) 0)), post := [⟨[.e (.var 0), .e (.var 1)], 103⟩], tout := [.sl, .int .i64], gout := [] }
set_option maxHeartbeats 800000 in
set_option maxRecDepth 1000000 in
theorem open_short (a : Option Addr) (len cap : Nat) (w : World) (hl : len ≤ 2000) :
    Calls Tryd.prog 67 #[.slice a len cap] w fun e w' => e = .returned (.pointer (some ⟨w.heap.size, 0, none⟩)) ∧ w' = w.alloc (.cells #[.slice a len cap, .int .i64 0] 103) := by
  go_enter Tryd.func67, Tryd.ntmps67
  go_wp2
  go_ret
  exact ⟨rfl, rfl⟩
set_option maxHeartbeats 800000 in
set_option maxRecDepth 1000000 in
theorem open_long (a : Addr) (len cap : Nat) (w : World) (hl : ¬ len ≤ 2000) (hc : len ≤ cap) (hm : len ≤ 1048576) :
    Calls Tryd.prog 67 #[.slice (some a) len cap] w fun e w' => e = .returned (.pointer (some ⟨w.heap.size, 0, none⟩)) ∧ w' = w.alloc (.cells #[.slice (some a) 2000 cap, .int .i64 0] 103) := by
  go_enter Tryd.func67, Tryd.ntmps67
  go_wp2
  go_ret
  exact ⟨rfl, rfl⟩
theorem con_openC {cb : CodeB} (_ : CodeOk cb) (_ : Known cb (glb ++ cb.tail)) : ConOK Tryd.prog (glb ++ cb.tail) 67 sg_openC (G_open cb).spec := conOK_open (t := 103) open_short open_long


def sg_l91Frac : Sig := { args := [.s (.p (.own 0) 0)], pre := [⟨[.e (.var 0), .e (.var 1)], 103⟩], tin := [.sl, .int .i64], gin := [], res := .c (.ag [.e (.var 0), .e (.var 1), .e (.var 2)]), post := [⟨[.e (.var 3), .e (.var 4)], 103⟩], tout := [.int .i64, .int .i64, .int .i64, .sl, .int .i64], gout := [] }
def cl_l91Frac : List (Nat × Sig) := [(88, sg_pickC), (108, sg_l2Low)]
theorem run_l91Frac : (fun H : List (Nat × List Sc) => run ⟨Tryd.prog, glb ++ H, cl_l91Frac⟩ [] Tryd.f107 sg_l91Frac (Tryd.f107.body.getD .skip)) = fun _ => tr_l91Frac := by kernel_rfl
theorem om_l91Frac {cb : CodeB} (hk : CodeOk cb) (hG : Known cb (glb ++ cb.tail)) : ΩOK ⟨Tryd.prog, glb ++ cb.tail, cl_l91Frac⟩ (specsOf (Fs_l91Frac cb)) := (ΩOK_cons (con_pickC hk hG) Tryd.call88 (ΩOK_cons cong_l2Low.more Tryd.call108 ΩOK_nil))
theorem con_l91Frac {cb : CodeB} (hk : CodeOk cb) (hG : Known cb (glb ++ cb.tail)) : ConOK Tryd.prog (glb ++ cb.tail) 107 sg_l91Frac (F_l91Frac cb).spec := conOK_tree (om_l91Frac hk hG) mixed Tryd.func107 (by kernel_rfl) (congrFun run_l91Frac cb.tail)

def sg_revL : Sig := { args := [.s (.e (.var 0))], pre := [], tin := [.sl, .row .i64 4], gin := [(0, 1, 4)], res := .c (.s (.e (.var 0))), post := [], tout := [.sl, .row .i64 4], gout := [(0, 1, 4)] }
def cl_revL : List (Nat × Sig) := []
theorem run_revL : run ⟨Tryd.prog, glb, cl_revL⟩ [(0, ⟨[(3, .sl), (4, .int .i64)], [], some (0, .i64, 4, 47)⟩)] Tryd.f50 sg_revL (Tryd.f50.body.getD .skip) = tr_revL := by kernel_rfl
theorem om_revL : ΩOK ⟨Tryd.prog, glb, cl_revL⟩ (specsOf Fs_revL) := ΩOK_nil
theorem con_revL : ConOK Tryd.prog glb 50 sg_revL SP_revL := conOK_of om_revL mixed Tryd.func50 (by kernel_rfl) run_revL (fun ins K ht h => sat_revL Tryd.prog ins K ht h)

def sg_iFilmBack : Sig := { args := [.s (.e (.var 0))], pre := [], tin := [.sl, .row .i64 4], gin := [(0, 1, 4)], res := .tu [.s (.e (.var 0)), .s (.e (.var 1))], post := [], tout := [.sl, .bool, .row .i64 4], gout := [(0, 2, 4)] }
def cl_iFilmBack : List (Nat × Sig) := [(16, sg_iFilmValid), (50, sg_revL)]
theorem run_iFilmBack : run ⟨Tryd.prog, glb, cl_iFilmBack⟩ [] Tryd.f19 sg_iFilmBack (Tryd.f19.body.getD .skip) = tr_iFilmBack := by kernel_rfl
theorem om_iFilmBack : ΩOK ⟨Tryd.prog, glb, cl_iFilmBack⟩ Ss_iFilmBack := (ΩOK_consS con_iFilmValid Tryd.call16 (ΩOK_consS con_revL Tryd.call50 ΩOK_nilS))
theorem con_iFilmBack : ConOK Tryd.prog glb 19 sg_iFilmBack SP_iFilmBack := conOK_of om_iFilmBack mixed Tryd.func19 (by kernel_rfl) run_iFilmBack (fun ins K ht h => sat_iFilmBack Tryd.prog ins K ht h)

def sg_sFilmBack : Sig := { args := [.s (.e (.var 0))], pre := [], tin := [.sl, .row .i64 4], gin := [(0, 1, 4)], res := .tu [.s (.e (.var 0)), .s (.e (.var 1))], post := [], tout := [.sl, .bool, .row .i64 4], gout := [(0, 2, 4)] }
def cl_sFilmBack : List (Nat × Sig) := [(14, sg_sFilmValid)]
theorem run_sFilmBack : run ⟨Tryd.prog, glb, cl_sFilmBack⟩ [(0, ⟨[(4, .sl), (5, .int .i64)], [], some (0, .i64, 4, 47)⟩)] Tryd.f18 sg_sFilmBack (Tryd.f18.body.getD .skip) = tr_sFilmBack := by kernel_rfl
theorem om_sFilmBack : ΩOK ⟨Tryd.prog, glb, cl_sFilmBack⟩ (specsOf Fs_sFilmBack) := (ΩOK_cons con_sFilmValid Tryd.call14 ΩOK_nil)
theorem con_sFilmBack : ConOK Tryd.prog glb 18 sg_sFilmBack SP_sFilmBack := conOK_of om_sFilmBack mixed Tryd.func18 (by kernel_rfl) run_sFilmBack (fun ins K ht h => sat_sFilmBack Tryd.prog ins K ht h)

def sg_l92Index : Sig := { args := [.s (.p (.own 0) 0)], pre := [⟨[.e (.var 0), .e (.var 1)], 103⟩], tin := [.sl, .int .i64], gin := [], res := .c (.ag [.e (.var 0), .e (.var 1), .e (.var 2)]), post := [⟨[.e (.var 3), .e (.var 4)], 103⟩], tout := [.int .i64, .int .i64, .int .i64, .sl, .int .i64], gout := [] }
def cl_l92Index : List (Nat × Sig) := [(88, sg_pickC), (107, sg_l91Frac), (108, sg_l2Low)]
theorem run_l92Index : (fun H : List (Nat × List Sc) => run ⟨Tryd.prog, glb ++ H, cl_l92Index⟩ [] Tryd.f89 sg_l92Index (Tryd.f89.body.getD .skip)) = fun _ => tr_l92Index := by kernel_rfl
theorem om_l92Index {cb : CodeB} (hk : CodeOk cb) (hG : Known cb (glb ++ cb.tail)) : ΩOK ⟨Tryd.prog, glb ++ cb.tail, cl_l92Index⟩ (specsOf (Fs_l92Index cb)) := (ΩOK_cons (con_pickC hk hG) Tryd.call88 (ΩOK_cons (con_l91Frac hk hG) Tryd.call107 (ΩOK_cons cong_l2Low.more Tryd.call108 ΩOK_nil)))
theorem con_l92Index {cb : CodeB} (hk : CodeOk cb) (hG : Known cb (glb ++ cb.tail)) : ConOK Tryd.prog (glb ++ cb.tail) 89 sg_l92Index (F_l92Index cb).spec := conOK_tree (om_l92Index hk hG) mixed Tryd.func89 (by kernel_rfl) (congrFun run_l92Index cb.tail)

def sg_l92Film : Sig := { args := [.s (.p (.own 0) 0)], pre := [⟨[.e (.var 0), .e (.var 1)], 103⟩], tin := [.sl, .int .i64], gin := [], res := .c (.s (.e (.var 0))), post := [⟨[.e (.var 1), .e (.var 2)], 103⟩], tout := [.sl, .sl, .int .i64, .row .i64 4], gout := [(0, 3, 4)] }
def cl_l92Film : List (Nat × Sig) := [(88, sg_pickC), (89, sg_l92Index)]
theorem run_l92Film : (fun H : List (Nat × List Sc) => run ⟨Tryd.prog, glb ++ H, cl_l92Film⟩ [(0, ⟨[(3, .sl), (5, .int .i64)], [(0, 0, .sl), (0, 1, .int .i64)], some (0, .i64, 4, 47)⟩)] Tryd.f66 sg_l92Film (Tryd.f66.body.getD .skip)) = fun _ => tr_l92Film := by kernel_rfl
theorem om_l92Film {cb : CodeB} (hk : CodeOk cb) (hG : Known cb (glb ++ cb.tail)) : ΩOK ⟨Tryd.prog, glb ++ cb.tail, cl_l92Film⟩ (Ss_l92Film cb) := (ΩOK_consS (con_pickC hk hG) Tryd.call88 (ΩOK_consS (con_l92Index hk hG) Tryd.call89 ΩOK_nilS))
theorem con_l92Film {cb : CodeB} (hk : CodeOk cb) (hG : Known cb (glb ++ cb.tail)) : ConOK Tryd.prog (glb ++ cb.tail) 66 sg_l92Film (SP_l92Film cb) := conOK_of (om_l92Film hk hG) mixed Tryd.func66 (by kernel_rfl) (congrFun run_l92Film cb.tail) (fun ins K ht h => sat_l92Film Tryd.prog cb hk ins K ht h)

def sg_DrawFilmBack : Sig := { args := [.s (.e (.var 0))], pre := [], tin := [.sl], gin := [], res := .c (.s (.e (.var 0))), post := [], tout := [.sl, .row .i64 4], gout := [(0, 1, 4)] }
def cl_DrawFilmBack : List (Nat × Sig) := [(67, sg_openC), (66, sg_l92Film)]
theorem run_DrawFilmBack : (fun H : List (Nat × List Sc) => run ⟨Tryd.prog, glb ++ H, cl_DrawFilmBack⟩ [] Tryd.f30 sg_DrawFilmBack (Tryd.f30.body.getD .skip)) = fun _ => tr_DrawFilmBack := by kernel_rfl
theorem om_DrawFilmBack {cb : CodeB} (hk : CodeOk cb) (hG : Known cb (glb ++ cb.tail)) : ΩOK ⟨Tryd.prog, glb ++ cb.tail, cl_DrawFilmBack⟩ (Ss_DrawFilmBack cb) := (ΩOK_consS (con_openC hk hG) Tryd.call67 (ΩOK_consS (con_l92Film hk hG) Tryd.call66 ΩOK_nilS))
theorem con_DrawFilmBack {cb : CodeB} (hk : CodeOk cb) (hG : Known cb (glb ++ cb.tail)) : ConOK Tryd.prog (glb ++ cb.tail) 30 sg_DrawFilmBack (SP_DrawFilmBack cb) := conOK_of (om_DrawFilmBack hk hG) mixed Tryd.func30 (by kernel_rfl) (congrFun run_DrawFilmBack cb.tail) (fun ins K ht h => sat_DrawFilmBack Tryd.prog cb hk ins K ht h)

def sg_sameLayers : Sig := { args := [.s (.e (.var 0)), .s (.e (.var 1))], pre := [], tin := [.sl, .sl, .row .i64 4, .row .i64 4], gin := [(0, 2, 4), (1, 3, 4)], res := .c (.s (.e (.var 0))), post := [], tout := [.bool], gout := [] }
def cl_sameLayers : List (Nat × Sig) := []
theorem run_sameLayers : run ⟨Tryd.prog, glb, cl_sameLayers⟩ [(0, ⟨[(5, .int .i64)], [], none⟩)] Tryd.f31 sg_sameLayers (Tryd.f31.body.getD .skip) = tr_sameLayers := by kernel_rfl
theorem om_sameLayers : ΩOK ⟨Tryd.prog, glb, cl_sameLayers⟩ (specsOf Fs_sameLayers) := ΩOK_nil
theorem con_sameLayers : ConOK Tryd.prog glb 31 sg_sameLayers F_sameLayers.spec := conOK_of om_sameLayers mixed Tryd.func31 (by kernel_rfl) run_sameLayers (fun ins K ht h => sat_sameLayers Tryd.prog ins K ht h.1 h.2)

def sg_FnFilmBack : Sig := { args := [.s (.e (.var 0))], pre := [], tin := [.sl], gin := [], res := .c (.s (.e (.var 0))), post := [], tout := [.bool], gout := [] }
def cl_FnFilmBack : List (Nat × Sig) := [(30, sg_DrawFilmBack), (19, sg_iFilmBack), (18, sg_sFilmBack), (31, sg_sameLayers), (29, sg_iFilmMat)]
theorem run_FnFilmBack : (fun H : List (Nat × List Sc) => run ⟨Tryd.prog, glb ++ H, cl_FnFilmBack⟩ [] Tryd.f8 sg_FnFilmBack (Tryd.f8.body.getD .skip)) = fun _ => tr_FnFilmBack := by kernel_rfl
theorem om_FnFilmBack {cb : CodeB} (hk : CodeOk cb) (hG : Known cb (glb ++ cb.tail)) : ΩOK ⟨Tryd.prog, glb ++ cb.tail, cl_FnFilmBack⟩ (Ss_FnFilmBack cb) := (ΩOK_consS (con_DrawFilmBack hk hG) Tryd.call30 (ΩOK_consS con_iFilmBack.more Tryd.call19 (ΩOK_consS con_sFilmBack.more Tryd.call18 (ΩOK_consS con_sameLayers.more Tryd.call31 (ΩOK_consS con_iFilmMat.more Tryd.call29 ΩOK_nilS)))))
theorem con_FnFilmBack {cb : CodeB} (hk : CodeOk cb) (hG : Known cb (glb ++ cb.tail)) : ConOK Tryd.prog (glb ++ cb.tail) 8 sg_FnFilmBack (lawF cb).spec := conOK_of (om_FnFilmBack hk hG) mixed Tryd.func8 (by kernel_rfl) (congrFun run_FnFilmBack cb.tail) (fun ins K ht h => sat_FnFilmBack Tryd.prog cb hk ins K ht h.1 h.2)

end Go.Proofs.YtacmlnomehkjcaaDoor

/- The contracts of the functions. -/
import Derived.Test.YtofdmonjagkgeaaDoorChecked
import Derived.Test.YtofdmonjagkgeaaDoorRkAFnTableProducts
import Derived.WalkKit
import Derived.Laws.OwnMore
import Derived.Deep.MidRow
namespace Go.Proofs.YtofdmonjagkgeaaDoor
open Go Go.Sx Go.RowKit
set_option maxRecDepth 100000

def glb : List (Nat × List Sc) := [(0, [.e (.int .i64 (0)), .e (.int .i64 (0)), .e (.int .i64 (1))])]
theorem mixed : Tryd.prog.follows .mixedOrders = true := by kernel_rfl

def sg_size : Sig := { args := [.s (.e (.var 0))], pre := [], tin := [.int .i64], gin := [], res := .c (.s (.e (.var 0))), post := [], tout := [.int .i64], gout := [] }
def cl_size : List (Nat × Sig) := []
theorem run_size : run ⟨Tryd.prog, glb, cl_size⟩ [] Tryd.f53 sg_size (Tryd.f53.body.getD .skip) = tr_size := by kernel_rfl
theorem om_size : ΩOK ⟨Tryd.prog, glb, cl_size⟩ (specsOf Fs_size) := ΩOK_nil
theorem con_size : ConOK Tryd.prog glb 53 sg_size F_size.spec := conOK_tree om_size mixed Tryd.func53 (by kernel_rfl) run_size

def sg_within : Sig := { args := [.s (.e (.var 0)), .s (.e (.var 1)), .s (.e (.var 2))], pre := [], tin := [.int .i64, .int .i64, .int .i64], gin := [], res := .c (.s (.e (.var 0))), post := [], tout := [.bool], gout := [] }
def cl_within : List (Nat × Sig) := []
theorem run_within : run ⟨Tryd.prog, glb, cl_within⟩ [] Tryd.f51 sg_within (Tryd.f51.body.getD .skip) = tr_within := by kernel_rfl
theorem om_within : ΩOK ⟨Tryd.prog, glb, cl_within⟩ (specsOf Fs_within) := ΩOK_nil
theorem con_within : ConOK Tryd.prog glb 51 sg_within F_within.spec := conOK_tree om_within mixed Tryd.func51 (by kernel_rfl) run_within
theorem cong_within : ConOK Tryd.prog glb 51 sg_within G_within.spec := con_within.as as_within

def sg_l6In : Sig := { args := [.s (.e (.var 0)), .s (.e (.var 1)), .s (.e (.var 2))], pre := [], tin := [.int .i64, .int .i64, .int .i64], gin := [], res := .c (.s (.e (.var 0))), post := [], tout := [.bool], gout := [] }
def cl_l6In : List (Nat × Sig) := []
theorem run_l6In : run ⟨Tryd.prog, glb, cl_l6In⟩ [] Tryd.f55 sg_l6In (Tryd.f55.body.getD .skip) = tr_l6In := by kernel_rfl
theorem om_l6In : ΩOK ⟨Tryd.prog, glb, cl_l6In⟩ (specsOf Fs_l6In) := ΩOK_nil
theorem con_l6In : ConOK Tryd.prog glb 55 sg_l6In F_l6In.spec := conOK_tree om_l6In mixed Tryd.func55 (by kernel_rfl) run_l6In
theorem cong_l6In : ConOK Tryd.prog glb 55 sg_l6In G_l6In.spec := con_l6In.as as_l6In

def sg_l2In : Sig := { args := [.s (.e (.var 0))], pre := [], tin := [.int .i64], gin := [], res := .c (.s (.e (.var 0))), post := [], tout := [.bool], gout := [] }
def cl_l2In : List (Nat × Sig) := [(55, sg_l6In)]
theorem run_l2In : run ⟨Tryd.prog, glb, cl_l2In⟩ [] Tryd.f54 sg_l2In (Tryd.f54.body.getD .skip) = tr_l2In := by kernel_rfl
theorem om_l2In : ΩOK ⟨Tryd.prog, glb, cl_l2In⟩ (specsOf Fs_l2In) := (ΩOK_cons cong_l6In Tryd.call55 ΩOK_nil)
theorem con_l2In : ConOK Tryd.prog glb 54 sg_l2In F_l2In.spec := conOK_tree om_l2In mixed Tryd.func54 (by kernel_rfl) run_l2In
theorem cong_l2In : ConOK Tryd.prog glb 54 sg_l2In G_l2In.spec := con_l2In.as as_l2In

def sg_divisor : Sig := { args := [.s (.e (.var 0)), .s (.e (.var 1))], pre := [], tin := [.int .i64, .int .i64], gin := [], res := .c (.s (.e (.var 0))), post := [], tout := [.int .i64], gout := [] }
def cl_divisor : List (Nat × Sig) := []
theorem run_divisor : run ⟨Tryd.prog, glb, cl_divisor⟩ [(0, ⟨[(0, .int .i64), (1, .int .i64)], []⟩)] Tryd.f52 sg_divisor (Tryd.f52.body.getD .skip) = tr_divisor := by kernel_rfl
theorem om_divisor : ΩOK ⟨Tryd.prog, glb, cl_divisor⟩ (specsOf Fs_divisor) := ΩOK_nil
theorem con_divisor : ConOK Tryd.prog glb 52 sg_divisor F_divisor.spec := conOK_of om_divisor mixed Tryd.func52 (by kernel_rfl) run_divisor (fun ins K ht h => sat_divisor Tryd.prog ins K ht h.1 h.2)

def sg_l2Gcd : Sig := { args := [.s (.e (.var 0)), .s (.e (.var 1))], pre := [], tin := [.int .i64, .int .i64], gin := [], res := .c (.s (.e (.var 0))), post := [], tout := [.int .i64], gout := [] }
def cl_l2Gcd : List (Nat × Sig) := []
theorem run_l2Gcd : run ⟨Tryd.prog, glb, cl_l2Gcd⟩ [(0, ⟨[(0, .int .i64), (1, .int .i64)], []⟩)] Tryd.f56 sg_l2Gcd (Tryd.f56.body.getD .skip) = tr_l2Gcd := by kernel_rfl
theorem om_l2Gcd : ΩOK ⟨Tryd.prog, glb, cl_l2Gcd⟩ (specsOf Fs_l2Gcd) := ΩOK_nil
theorem con_l2Gcd : ConOK Tryd.prog glb 56 sg_l2Gcd F_l2Gcd.spec := conOK_of om_l2Gcd mixed Tryd.func56 (by kernel_rfl) run_l2Gcd (fun ins K ht h => sat_l2Gcd Tryd.prog ins K ht h.1 h.2)

def sg_lowest : Sig := { args := [.s (.e (.var 0)), .s (.e (.var 1)), .s (.e (.var 2))], pre := [], tin := [.int .i64, .int .i64, .int .i64], gin := [], res := .tu [.ag [.e (.var 0), .e (.var 1), .e (.var 2)], .s (.e (.var 3))], post := [], tout := [.int .i64, .int .i64, .int .i64, .bool], gout := [] }
def cl_lowest : List (Nat × Sig) := [(53, sg_size), (52, sg_divisor), (51, sg_within)]
theorem run_lowest : run ⟨Tryd.prog, glb, cl_lowest⟩ [] Tryd.f43 sg_lowest (Tryd.f43.body.getD .skip) = tr_lowest := by kernel_rfl
theorem om_lowest : ΩOK ⟨Tryd.prog, glb, cl_lowest⟩ (specsOf Fs_lowest) := (ΩOK_cons con_size Tryd.call53 (ΩOK_cons con_divisor Tryd.call52 (ΩOK_cons cong_within Tryd.call51 ΩOK_nil)))
theorem con_lowest : ConOK Tryd.prog glb 43 sg_lowest F_lowest.spec := conOK_tree om_lowest mixed Tryd.func43 (by kernel_rfl) run_lowest
theorem cong_lowest : ConOK Tryd.prog glb 43 sg_lowest G_lowest.spec := con_lowest.as as_lowest

def sg_sFracValid : Sig := { args := [.ag [.e (.var 0), .e (.var 1), .e (.var 2)]], pre := [], tin := [.int .i64, .int .i64, .int .i64], gin := [], res := .c (.s (.e (.var 0))), post := [], tout := [.bool], gout := [] }
def cl_sFracValid : List (Nat × Sig) := [(54, sg_l2In), (55, sg_l6In), (56, sg_l2Gcd)]
theorem run_sFracValid : run ⟨Tryd.prog, glb, cl_sFracValid⟩ [] Tryd.f36 sg_sFracValid (Tryd.f36.body.getD .skip) = tr_sFracValid := by kernel_rfl
theorem om_sFracValid : ΩOK ⟨Tryd.prog, glb, cl_sFracValid⟩ (specsOf Fs_sFracValid) := (ΩOK_cons cong_l2In Tryd.call54 (ΩOK_cons cong_l6In Tryd.call55 (ΩOK_cons con_l2Gcd Tryd.call56 ΩOK_nil)))
theorem con_sFracValid : ConOK Tryd.prog glb 36 sg_sFracValid F_sFracValid.spec := conOK_tree om_sFracValid mixed Tryd.func36 (by kernel_rfl) run_sFracValid
theorem cong_sFracValid : ConOK Tryd.prog glb 36 sg_sFracValid G_sFracValid.spec := con_sFracValid.as as_sFracValid

def sg_l2Low : Sig := { args := [.s (.e (.var 0)), .s (.e (.var 1)), .s (.e (.var 2))], pre := [], tin := [.int .i64, .int .i64, .int .i64], gin := [], res := .tu [.ag [.e (.var 0), .e (.var 1), .e (.var 2)], .s (.e (.var 3))], post := [], tout := [.int .i64, .int .i64, .int .i64, .bool], gout := [] }
def cl_l2Low : List (Nat × Sig) := [(56, sg_l2Gcd), (36, sg_sFracValid)]
theorem run_l2Low : run ⟨Tryd.prog, glb, cl_l2Low⟩ [] Tryd.f57 sg_l2Low (Tryd.f57.body.getD .skip) = tr_l2Low := by kernel_rfl
theorem om_l2Low : ΩOK ⟨Tryd.prog, glb, cl_l2Low⟩ (specsOf Fs_l2Low) := (ΩOK_cons con_l2Gcd Tryd.call56 (ΩOK_cons cong_sFracValid Tryd.call36 ΩOK_nil))
theorem con_l2Low : ConOK Tryd.prog glb 57 sg_l2Low F_l2Low.spec := conOK_tree om_l2Low mixed Tryd.func57 (by kernel_rfl) run_l2Low
theorem cong_l2Low : ConOK Tryd.prog glb 57 sg_l2Low G_l2Low.spec := con_l2Low.as as_l2Low

def sg_sFracMake : Sig := { args := [.s (.e (.var 0)), .s (.e (.var 1)), .s (.e (.var 2))], pre := [], tin := [.int .i64, .int .i64, .int .i64], gin := [], res := .tu [.ag [.e (.var 0), .e (.var 1), .e (.var 2)], .s (.e (.var 3))], post := [], tout := [.int .i64, .int .i64, .int .i64, .bool], gout := [] }
def cl_sFracMake : List (Nat × Sig) := [(55, sg_l6In), (57, sg_l2Low)]
theorem run_sFracMake : run ⟨Tryd.prog, glb, cl_sFracMake⟩ [] Tryd.f63 sg_sFracMake (Tryd.f63.body.getD .skip) = tr_sFracMake := by kernel_rfl
theorem om_sFracMake : ΩOK ⟨Tryd.prog, glb, cl_sFracMake⟩ (specsOf Fs_sFracMake) := (ΩOK_cons cong_l6In Tryd.call55 (ΩOK_cons cong_l2Low Tryd.call57 ΩOK_nil))
theorem con_sFracMake : ConOK Tryd.prog glb 63 sg_sFracMake F_sFracMake.spec := conOK_tree om_sFracMake mixed Tryd.func63 (by kernel_rfl) run_sFracMake
theorem cong_sFracMake : ConOK Tryd.prog glb 63 sg_sFracMake G_sFracMake.spec := con_sFracMake.as as_sFracMake

def sg_l5Direction : Sig := { args := [.s (.e (.var 0)), .s (.e (.var 1))], pre := [], tin := [.int .i64, .int .i64], gin := [], res := .tu [.ag [.e (.var 0), .e (.var 1), .e (.var 2)], .ag [.e (.var 3), .e (.var 4), .e (.var 5)], .s (.e (.var 6))], post := [], tout := [.int .i64, .int .i64, .int .i64, .int .i64, .int .i64, .int .i64, .bool], gout := [] }
def cl_l5Direction : List (Nat × Sig) := [(55, sg_l6In), (63, sg_sFracMake)]
theorem run_l5Direction : run ⟨Tryd.prog, glb, cl_l5Direction⟩ [] Tryd.f59 sg_l5Direction (Tryd.f59.body.getD .skip) = tr_l5Direction := by kernel_rfl
theorem om_l5Direction : ΩOK ⟨Tryd.prog, glb, cl_l5Direction⟩ (specsOf Fs_l5Direction) := (ΩOK_cons cong_l6In Tryd.call55 (ΩOK_cons cong_sFracMake Tryd.call63 ΩOK_nil))
theorem con_l5Direction : ConOK Tryd.prog glb 59 sg_l5Direction F_l5Direction.spec := conOK_tree om_l5Direction mixed Tryd.func59 (by kernel_rfl) run_l5Direction
theorem cong_l5Direction : ConOK Tryd.prog glb 59 sg_l5Direction G_l5Direction.spec := con_l5Direction.as as_l5Direction

def sg_iFracValid : Sig := { args := [.ag [.e (.var 0), .e (.var 1), .e (.var 2)]], pre := [], tin := [.int .i64, .int .i64, .int .i64], gin := [], res := .c (.s (.e (.var 0))), post := [], tout := [.bool], gout := [] }
def cl_iFracValid : List (Nat × Sig) := [(51, sg_within), (52, sg_divisor), (53, sg_size)]
theorem run_iFracValid : run ⟨Tryd.prog, glb, cl_iFracValid⟩ [] Tryd.f32 sg_iFracValid (Tryd.f32.body.getD .skip) = tr_iFracValid := by kernel_rfl
theorem om_iFracValid : ΩOK ⟨Tryd.prog, glb, cl_iFracValid⟩ (specsOf Fs_iFracValid) := (ΩOK_cons cong_within Tryd.call51 (ΩOK_cons con_divisor Tryd.call52 (ΩOK_cons con_size Tryd.call53 ΩOK_nil)))
theorem con_iFracValid : ConOK Tryd.prog glb 32 sg_iFracValid F_iFracValid.spec := conOK_tree om_iFracValid mixed Tryd.func32 (by kernel_rfl) run_iFracValid
theorem cong_iFracValid : ConOK Tryd.prog glb 32 sg_iFracValid G_iFracValid.spec := con_iFracValid.as as_iFracValid

def sg_realOk : Sig := { args := [.ag [.e (.var 0), .e (.var 1), .e (.var 2)]], pre := [], tin := [.int .i64, .int .i64, .int .i64], gin := [], res := .c (.s (.e (.var 0))), post := [], tout := [.bool], gout := [] }
def cl_realOk : List (Nat × Sig) := [(32, sg_iFracValid)]
theorem run_realOk : run ⟨Tryd.prog, glb, cl_realOk⟩ [] Tryd.f44 sg_realOk (Tryd.f44.body.getD .skip) = tr_realOk := by kernel_rfl
theorem om_realOk : ΩOK ⟨Tryd.prog, glb, cl_realOk⟩ (specsOf Fs_realOk) := (ΩOK_cons cong_iFracValid Tryd.call32 ΩOK_nil)
theorem con_realOk : ConOK Tryd.prog glb 44 sg_realOk F_realOk.spec := conOK_tree om_realOk mixed Tryd.func44 (by kernel_rfl) run_realOk
theorem cong_realOk : ConOK Tryd.prog glb 44 sg_realOk G_realOk.spec := con_realOk.as as_realOk

def sg_iFracAdd : Sig := { args := [.ag [.e (.var 0), .e (.var 1), .e (.var 2)], .ag [.e (.var 3), .e (.var 4), .e (.var 5)]], pre := [], tin := [.int .i64, .int .i64, .int .i64, .int .i64, .int .i64, .int .i64], gin := [], res := .tu [.ag [.e (.var 0), .e (.var 1), .e (.var 2)], .s (.e (.var 3))], post := [], tout := [.int .i64, .int .i64, .int .i64, .bool], gout := [] }
def cl_iFracAdd : List (Nat × Sig) := [(32, sg_iFracValid), (43, sg_lowest)]
theorem run_iFracAdd : run ⟨Tryd.prog, glb, cl_iFracAdd⟩ [] Tryd.f34 sg_iFracAdd (Tryd.f34.body.getD .skip) = tr_iFracAdd := by kernel_rfl
theorem om_iFracAdd : ΩOK ⟨Tryd.prog, glb, cl_iFracAdd⟩ (specsOf Fs_iFracAdd) := (ΩOK_cons cong_iFracValid Tryd.call32 (ΩOK_cons cong_lowest Tryd.call43 ΩOK_nil))
theorem con_iFracAdd : ConOK Tryd.prog glb 34 sg_iFracAdd F_iFracAdd.spec := conOK_tree om_iFracAdd mixed Tryd.func34 (by kernel_rfl) run_iFracAdd
theorem cong_iFracAdd : ConOK Tryd.prog glb 34 sg_iFracAdd G_iFracAdd.spec := con_iFracAdd.as as_iFracAdd

def sg_iFracTimes : Sig := { args := [.ag [.e (.var 0), .e (.var 1), .e (.var 2)], .ag [.e (.var 3), .e (.var 4), .e (.var 5)]], pre := [], tin := [.int .i64, .int .i64, .int .i64, .int .i64, .int .i64, .int .i64], gin := [], res := .tu [.ag [.e (.var 0), .e (.var 1), .e (.var 2)], .s (.e (.var 3))], post := [], tout := [.int .i64, .int .i64, .int .i64, .bool], gout := [] }
def cl_iFracTimes : List (Nat × Sig) := [(32, sg_iFracValid), (43, sg_lowest)]
theorem run_iFracTimes : run ⟨Tryd.prog, glb, cl_iFracTimes⟩ [] Tryd.f35 sg_iFracTimes (Tryd.f35.body.getD .skip) = tr_iFracTimes := by kernel_rfl
theorem om_iFracTimes : ΩOK ⟨Tryd.prog, glb, cl_iFracTimes⟩ (specsOf Fs_iFracTimes) := (ΩOK_cons cong_iFracValid Tryd.call32 (ΩOK_cons cong_lowest Tryd.call43 ΩOK_nil))
theorem con_iFracTimes : ConOK Tryd.prog glb 35 sg_iFracTimes F_iFracTimes.spec := conOK_tree om_iFracTimes mixed Tryd.func35 (by kernel_rfl) run_iFracTimes
theorem cong_iFracTimes : ConOK Tryd.prog glb 35 sg_iFracTimes G_iFracTimes.spec := con_iFracTimes.as as_iFracTimes

def sg_l2Sum : Sig := { args := [.ag [.e (.var 0), .e (.var 1), .e (.var 2)], .s (.e (.var 3)), .ag [.e (.var 4), .e (.var 5), .e (.var 6)]], pre := [], tin := [.int .i64, .int .i64, .int .i64, .int .i64, .int .i64, .int .i64, .int .i64], gin := [], res := .tu [.ag [.e (.var 0), .e (.var 1), .e (.var 2)], .s (.e (.var 3))], post := [], tout := [.int .i64, .int .i64, .int .i64, .bool], gout := [] }
def cl_l2Sum : List (Nat × Sig) := [(36, sg_sFracValid), (57, sg_l2Low)]
theorem run_l2Sum : run ⟨Tryd.prog, glb, cl_l2Sum⟩ [] Tryd.f58 sg_l2Sum (Tryd.f58.body.getD .skip) = tr_l2Sum := by kernel_rfl
theorem om_l2Sum : ΩOK ⟨Tryd.prog, glb, cl_l2Sum⟩ (specsOf Fs_l2Sum) := (ΩOK_cons cong_sFracValid Tryd.call36 (ΩOK_cons cong_l2Low Tryd.call57 ΩOK_nil))
theorem con_l2Sum : ConOK Tryd.prog glb 58 sg_l2Sum F_l2Sum.spec := conOK_tree om_l2Sum mixed Tryd.func58 (by kernel_rfl) run_l2Sum
theorem cong_l2Sum : ConOK Tryd.prog glb 58 sg_l2Sum G_l2Sum.spec := con_l2Sum.as as_l2Sum

def sg_sFracAdd : Sig := { args := [.ag [.e (.var 0), .e (.var 1), .e (.var 2)], .ag [.e (.var 3), .e (.var 4), .e (.var 5)]], pre := [], tin := [.int .i64, .int .i64, .int .i64, .int .i64, .int .i64, .int .i64], gin := [], res := .tu [.ag [.e (.var 0), .e (.var 1), .e (.var 2)], .s (.e (.var 3))], post := [], tout := [.int .i64, .int .i64, .int .i64, .bool], gout := [] }
def cl_sFracAdd : List (Nat × Sig) := [(58, sg_l2Sum)]
theorem run_sFracAdd : run ⟨Tryd.prog, glb, cl_sFracAdd⟩ [] Tryd.f38 sg_sFracAdd (Tryd.f38.body.getD .skip) = tr_sFracAdd := by kernel_rfl
theorem om_sFracAdd : ΩOK ⟨Tryd.prog, glb, cl_sFracAdd⟩ (specsOf Fs_sFracAdd) := (ΩOK_cons cong_l2Sum Tryd.call58 ΩOK_nil)
theorem con_sFracAdd : ConOK Tryd.prog glb 38 sg_sFracAdd F_sFracAdd.spec := conOK_tree om_sFracAdd mixed Tryd.func38 (by kernel_rfl) run_sFracAdd
theorem cong_sFracAdd : ConOK Tryd.prog glb 38 sg_sFracAdd G_sFracAdd.spec := con_sFracAdd.as as_sFracAdd

def sg_sFracTimes : Sig := { args := [.ag [.e (.var 0), .e (.var 1), .e (.var 2)], .ag [.e (.var 3), .e (.var 4), .e (.var 5)]], pre := [], tin := [.int .i64, .int .i64, .int .i64, .int .i64, .int .i64, .int .i64], gin := [], res := .tu [.ag [.e (.var 0), .e (.var 1), .e (.var 2)], .s (.e (.var 3))], post := [], tout := [.int .i64, .int .i64, .int .i64, .bool], gout := [] }
def cl_sFracTimes : List (Nat × Sig) := [(36, sg_sFracValid), (57, sg_l2Low)]
theorem run_sFracTimes : run ⟨Tryd.prog, glb, cl_sFracTimes⟩ [] Tryd.f37 sg_sFracTimes (Tryd.f37.body.getD .skip) = tr_sFracTimes := by kernel_rfl
theorem om_sFracTimes : ΩOK ⟨Tryd.prog, glb, cl_sFracTimes⟩ (specsOf Fs_sFracTimes) := (ΩOK_cons cong_sFracValid Tryd.call36 (ΩOK_cons cong_l2Low Tryd.call57 ΩOK_nil))
theorem con_sFracTimes : ConOK Tryd.prog glb 37 sg_sFracTimes F_sFracTimes.spec := conOK_tree om_sFracTimes mixed Tryd.func37 (by kernel_rfl) run_sFracTimes
theorem cong_sFracTimes : ConOK Tryd.prog glb 37 sg_sFracTimes G_sFracTimes.spec := con_sFracTimes.as as_sFracTimes

def sg_keep : Sig := { args := [.s (.p (.own 0) 0), .ag [.e (.var 0), .e (.var 1), .e (.var 2)], .s (.e (.var 3))], pre := [⟨[.e (.var 4)], 41⟩], tin := [.int .i64, .int .i64, .int .i64, .bool, .bool], gin := [], res := .c (.ag [.e (.var 0), .e (.var 1), .e (.var 2)]), post := [⟨[.e (.var 3)], 41⟩], tout := [.int .i64, .int .i64, .int .i64, .bool], gout := [] }
def cl_keep : List (Nat × Sig) := []
theorem run_keep : run ⟨Tryd.prog, glb, cl_keep⟩ [] Tryd.f33 sg_keep (Tryd.f33.body.getD .skip) = tr_keep := by kernel_rfl
theorem om_keep : ΩOK ⟨Tryd.prog, glb, cl_keep⟩ (specsOf Fs_keep) := ΩOK_nil
theorem con_keep : ConOK Tryd.prog glb 33 sg_keep F_keep.spec := conOK_tree om_keep mixed Tryd.func33 (by kernel_rfl) run_keep

def sg_add : Sig := { args := [.s (.p (.own 0) 0), .ag [.e (.var 0), .e (.var 1), .e (.var 2)], .ag [.e (.var 3), .e (.var 4), .e (.var 5)]], pre := [⟨[.e (.var 6)], 41⟩], tin := [.int .i64, .int .i64, .int .i64, .int .i64, .int .i64, .int .i64, .bool], gin := [], res := .c (.ag [.e (.var 0), .e (.var 1), .e (.var 2)]), post := [⟨[.e (.var 3)], 41⟩], tout := [.int .i64, .int .i64, .int .i64, .bool], gout := [] }
def cl_add : List (Nat × Sig) := [(34, sg_iFracAdd), (33, sg_keep)]
theorem run_add : run ⟨Tryd.prog, glb, cl_add⟩ [] Tryd.f13 sg_add (Tryd.f13.body.getD .skip) = tr_add := by kernel_rfl
theorem om_add : ΩOK ⟨Tryd.prog, glb, cl_add⟩ (specsOf Fs_add) := (ΩOK_cons cong_iFracAdd Tryd.call34 (ΩOK_cons con_keep Tryd.call33 ΩOK_nil))
theorem con_add : ConOK Tryd.prog glb 13 sg_add F_add.spec := conOK_tree om_add mixed Tryd.func13 (by kernel_rfl) run_add
theorem cong_add : ConOK Tryd.prog glb 13 sg_add G_add.spec := con_add.as as_add

def sg_times : Sig := { args := [.s (.p (.own 0) 0), .ag [.e (.var 0), .e (.var 1), .e (.var 2)], .ag [.e (.var 3), .e (.var 4), .e (.var 5)]], pre := [⟨[.e (.var 6)], 41⟩], tin := [.int .i64, .int .i64, .int .i64, .int .i64, .int .i64, .int .i64, .bool], gin := [], res := .c (.ag [.e (.var 0), .e (.var 1), .e (.var 2)]), post := [⟨[.e (.var 3)], 41⟩], tout := [.int .i64, .int .i64, .int .i64, .bool], gout := [] }
def cl_times : List (Nat × Sig) := [(35, sg_iFracTimes), (33, sg_keep)]
theorem run_times : run ⟨Tryd.prog, glb, cl_times⟩ [] Tryd.f14 sg_times (Tryd.f14.body.getD .skip) = tr_times := by kernel_rfl
theorem om_times : ΩOK ⟨Tryd.prog, glb, cl_times⟩ (specsOf Fs_times) := (ΩOK_cons cong_iFracTimes Tryd.call35 (ΩOK_cons con_keep Tryd.call33 ΩOK_nil))
theorem con_times : ConOK Tryd.prog glb 14 sg_times F_times.spec := conOK_tree om_times mixed Tryd.func14 (by kernel_rfl) run_times
theorem cong_times : ConOK Tryd.prog glb 14 sg_times G_times.spec := con_times.as as_times

def sg_need : Sig := { args := [.s (.p (.own 0) 0), .s (.e (.var 0))], pre := [⟨[.e (.var 1)], 41⟩], tin := [.bool, .bool], gin := [], res := .c (.s (.p (.own 0) 0)), post := [⟨[.e (.var 0)], 41⟩], tout := [.bool], gout := [] }
def cl_need : List (Nat × Sig) := []
theorem run_need : run ⟨Tryd.prog, glb, cl_need⟩ [] Tryd.f10 sg_need (Tryd.f10.body.getD .skip) = tr_need := by kernel_rfl
theorem om_need : ΩOK ⟨Tryd.prog, glb, cl_need⟩ (specsOf Fs_need) := ΩOK_nil
theorem con_need : ConOK Tryd.prog glb 10 sg_need F_need.spec := conOK_tree om_need mixed Tryd.func10 (by kernel_rfl) run_need
theorem cong_need : ConOK Tryd.prog glb 10 sg_need G_need.spec := con_need.as as_need

def sg_iTableValid : Sig := { args := [.ag [.e (.var 0), .e (.var 1), .e (.var 2), .e (.var 3), .e (.var 4), .e (.var 5), .e (.var 6), .e (.var 7), .e (.var 8), .e (.var 9), .e (.var 10), .e (.var 11), .e (.var 12), .e (.var 13), .e (.var 14), .e (.var 15), .e (.var 16), .e (.var 17), .e (.var 18), .e (.var 19), .e (.var 20), .e (.var 21), .e (.var 22), .e (.var 23), .e (.var 24), .e (.var 25), .e (.var 26), .e (.var 27), .e (.var 28), .e (.var 29), .e (.var 30), .e (.var 31), .e (.var 32), .e (.var 33), .e (.var 34), .e (.var 35), .e (.var 36), .e (.var 37), .e (.var 38), .e (.var 39), .e (.var 40), .e (.var 41), .e (.var 42), .e (.var 43), .e (.var 44), .e (.var 45), .e (.var 46), .e (.var 47)]], pre := [], tin := [.int .i64, .int .i64, .int .i64, .int .i64, .int .i64, .int .i64, .int .i64, .int .i64, .int .i64, .int .i64, .int .i64, .int .i64, .int .i64, .int .i64, .int .i64, .int .i64, .int .i64, .int .i64, .int .i64, .int .i64, .int .i64, .int .i64, .int .i64, .int .i64, .int .i64, .int .i64, .int .i64, .int .i64, .int .i64, .int .i64, .int .i64, .int .i64, .int .i64, .int .i64, .int .i64, .int .i64, .int .i64, .int .i64, .int .i64, .int .i64, .int .i64, .int .i64, .int .i64, .int .i64, .int .i64, .int .i64, .int .i64, .int .i64], gin := [], res := .c (.s (.e (.var 0))), post := [], tout := [.bool], gout := [] }
def cl_iTableValid : List (Nat × Sig) := [(44, sg_realOk)]
theorem run_iTableValid : run ⟨Tryd.prog, glb, cl_iTableValid⟩ [] Tryd.f29 sg_iTableValid (Tryd.f29.body.getD .skip) = tr_iTableValid := by kernel_rfl
theorem om_iTableValid : ΩOK ⟨Tryd.prog, glb, cl_iTableValid⟩ (specsOf Fs_iTableValid) := (ΩOK_cons cong_realOk Tryd.call44 ΩOK_nil)
theorem con_iTableValid : ConOK Tryd.prog glb 29 sg_iTableValid F_iTableValid.spec := conOK_tree om_iTableValid mixed Tryd.func29 (by kernel_rfl) run_iTableValid
theorem cong_iTableValid : ConOK Tryd.prog glb 29 sg_iTableValid G_iTableValid.spec := con_iTableValid.as as_iTableValid

def sg_gotTable : Sig := { args := [.s (.p (.own 0) 0), .ag [.e (.var 0), .e (.var 1), .e (.var 2), .e (.var 3), .e (.var 4), .e (.var 5), .e (.var 6), .e (.var 7), .e (.var 8), .e (.var 9), .e (.var 10), .e (.var 11), .e (.var 12), .e (.var 13), .e (.var 14), .e (.var 15), .e (.var 16), .e (.var 17), .e (.var 18), .e (.var 19), .e (.var 20), .e (.var 21), .e (.var 22), .e (.var 23), .e (.var 24), .e (.var 25), .e (.var 26), .e (.var 27), .e (.var 28), .e (.var 29), .e (.var 30), .e (.var 31), .e (.var 32), .e (.var 33), .e (.var 34), .e (.var 35), .e (.var 36), .e (.var 37), .e (.var 38), .e (.var 39), .e (.var 40), .e (.var 41), .e (.var 42), .e (.var 43), .e (.var 44), .e (.var 45), .e (.var 46), .e (.var 47)]], pre := [⟨[.e (.var 48)], 41⟩], tin := [.int .i64, .int .i64, .int .i64, .int .i64, .int .i64, .int .i64, .int .i64, .int .i64, .int .i64, .int .i64, .int .i64, .int .i64, .int .i64, .int .i64, .int .i64, .int .i64, .int .i64, .int .i64, .int .i64, .int .i64, .int .i64, .int .i64, .int .i64, .int .i64, .int .i64, .int .i64, .int .i64, .int .i64, .int .i64, .int .i64, .int .i64, .int .i64, .int .i64, .int .i64, .int .i64, .int .i64, .int .i64, .int .i64, .int .i64, .int .i64, .int .i64, .int .i64, .int .i64, .int .i64, .int .i64, .int .i64, .int .i64, .int .i64, .bool], gin := [], res := .tu [.ag [.e (.var 0), .e (.var 1), .e (.var 2), .e (.var 3), .e (.var 4), .e (.var 5), .e (.var 6), .e (.var 7), .e (.var 8), .e (.var 9), .e (.var 10), .e (.var 11), .e (.var 12), .e (.var 13), .e (.var 14), .e (.var 15), .e (.var 16), .e (.var 17), .e (.var 18), .e (.var 19), .e (.var 20), .e (.var 21), .e (.var 22), .e (.var 23), .e (.var 24), .e (.var 25), .e (.var 26), .e (.var 27), .e (.var 28), .e (.var 29), .e (.var 30), .e (.var 31), .e (.var 32), .e (.var 33), .e (.var 34), .e (.var 35), .e (.var 36), .e (.var 37), .e (.var 38), .e (.var 39), .e (.var 40), .e (.var 41), .e (.var 42), .e (.var 43), .e (.var 44), .e (.var 45), .e (.var 46), .e (.var 47)], .s (.e (.var 48))], post := [⟨[.e (.var 49)], 41⟩], tout := [.int .i64, .int .i64, .int .i64, .int .i64, .int .i64, .int .i64, .int .i64, .int .i64, .int .i64, .int .i64, .int .i64, .int .i64, .int .i64, .int .i64, .int .i64, .int .i64, .int .i64, .int .i64, .int .i64, .int .i64, .int .i64, .int .i64, .int .i64, .int .i64, .int .i64, .int .i64, .int .i64, .int .i64, .int .i64, .int .i64, .int .i64, .int .i64, .int .i64, .int .i64, .int .i64, .int .i64, .int .i64, .int .i64, .int .i64, .int .i64, .int .i64, .int .i64, .int .i64, .int .i64, .int .i64, .int .i64, .int .i64, .int .i64, .bool, .bool], gout := [] }
def cl_gotTable : List (Nat × Sig) := []
theorem run_gotTable : run ⟨Tryd.prog, glb, cl_gotTable⟩ [] Tryd.f28 sg_gotTable (Tryd.f28.body.getD .skip) = tr_gotTable := by kernel_rfl
theorem om_gotTable : ΩOK ⟨Tryd.prog, glb, cl_gotTable⟩ (specsOf Fs_gotTable) := ΩOK_nil
theorem con_gotTable : ConOK Tryd.prog glb 28 sg_gotTable F_gotTable.spec := conOK_tree om_gotTable mixed Tryd.func28 (by kernel_rfl) run_gotTable
theorem cong_gotTable : ConOK Tryd.prog glb 28 sg_gotTable G_gotTable.spec := con_gotTable.as as_gotTable

def sg_iTableTimes : Sig := { args := [.ag [.e (.var 0), .e (.var 1), .e (.var 2), .e (.var 3), .e (.var 4), .e (.var 5), .e (.var 6), .e (.var 7), .e (.var 8), .e (.var 9), .e (.var 10), .e (.var 11), .e (.var 12), .e (.var 13), .e (.var 14), .e (.var 15), .e (.var 16), .e (.var 17), .e (.var 18), .e (.var 19), .e (.var 20), .e (.var 21), .e (.var 22), .e (.var 23), .e (.var 24), .e (.var 25), .e (.var 26), .e (.var 27), .e (.var 28), .e (.var 29), .e (.var 30), .e (.var 31), .e (.var 32), .e (.var 33), .e (.var 34), .e (.var 35), .e (.var 36), .e (.var 37), .e (.var 38), .e (.var 39), .e (.var 40), .e (.var 41), .e (.var 42), .e (.var 43), .e (.var 44), .e (.var 45), .e (.var 46), .e (.var 47)], .ag [.e (.var 48), .e (.var 49), .e (.var 50), .e (.var 51), .e (.var 52), .e (.var 53), .e (.var 54), .e (.var 55), .e (.var 56), .e (.var 57), .e (.var 58), .e (.var 59), .e (.var 60), .e (.var 61), .e (.var 62), .e (.var 63), .e (.var 64), .e (.var 65), .e (.var 66), .e (.var 67), .e (.var 68), .e (.var 69), .e (.var 70), .e (.var 71), .e (.var 72), .e (.var 73), .e (.var 74), .e (.var 75), .e (.var 76), .e (.var 77), .e (.var 78), .e (.var 79), .e (.var 80), .e (.var 81), .e (.var 82), .e (.var 83), .e (.var 84), .e (.var 85), .e (.var 86), .e (.var 87), .e (.var 88), .e (.var 89), .e (.var 90), .e (.var 91), .e (.var 92), .e (.var 93), .e (.var 94), .e (.var 95)]], pre := [], tin := [.int .i64, .int .i64, .int .i64, .int .i64, .int .i64, .int .i64, .int .i64, .int .i64, .int .i64, .int .i64, .int .i64, .int .i64, .int .i64, .int .i64, .int .i64, .int .i64, .int .i64, .int .i64, .int .i64, .int .i64, .int .i64, .int .i64, .int .i64, .int .i64, .int .i64, .int .i64, .int .i64, .int .i64, .int .i64, .int .i64, .int .i64, .int .i64, .int .i64, .int .i64, .int .i64, .int .i64, .int .i64, .int .i64, .int .i64, .int .i64, .int .i64, .int .i64, .int .i64, .int .i64, .int .i64, .int .i64, .int .i64, .int .i64, .int .i64, .int .i64, .int .i64, .int .i64, .int .i64, .int .i64, .int .i64, .int .i64, .int .i64, .int .i64, .int .i64, .int .i64, .int .i64, .int .i64, .int .i64, .int .i64, .int .i64, .int .i64, .int .i64, .int .i64, .int .i64, .int .i64, .int .i64, .int .i64, .int .i64, .int .i64, .int .i64, .int .i64, .int .i64, .int .i64, .int .i64, .int .i64, .int .i64, .int .i64, .int .i64, .int .i64, .int .i64, .int .i64, .int .i64, .int .i64, .int .i64, .int .i64, .int .i64, .int .i64, .int .i64, .int .i64, .int .i64, .int .i64], gin := [], res := .tu [.ag [.e (.var 0), .e (.var 1), .e (.var 2), .e (.var 3), .e (.var 4), .e (.var 5), .e (.var 6), .e (.var 7), .e (.var 8), .e (.var 9), .e (.var 10), .e (.var 11), .e (.var 12), .e (.var 13), .e (.var 14), .e (.var 15), .e (.var 16), .e (.var 17), .e (.var 18), .e (.var 19), .e (.var 20), .e (.var 21), .e (.var 22), .e (.var 23), .e (.var 24), .e (.var 25), .e (.var 26), .e (.var 27), .e (.var 28), .e (.var 29), .e (.var 30), .e (.var 31), .e (.var 32), .e (.var 33), .e (.var 34), .e (.var 35), .e (.var 36), .e (.var 37), .e (.var 38), .e (.var 39), .e (.var 40), .e (.var 41), .e (.var 42), .e (.var 43), .e (.var 44), .e (.var 45), .e (.var 46), .e (.var 47)], .s (.e (.var 48))], post := [], tout := [.int .i64, .int .i64, .int .i64, .int .i64, .int .i64, .int .i64, .int .i64, .int .i64, .int .i64, .int .i64, .int .i64, .int .i64, .int .i64, .int .i64, .int .i64, .int .i64, .int .i64, .int .i64, .int .i64, .int .i64, .int .i64, .int .i64, .int .i64, .int .i64, .int .i64, .int .i64, .int .i64, .int .i64, .int .i64, .int .i64, .int .i64, .int .i64, .int .i64, .int .i64, .int .i64, .int .i64, .int .i64, .int .i64, .int .i64, .int .i64, .int .i64, .int .i64, .int .i64, .int .i64, .int .i64, .int .i64, .int .i64, .int .i64, .bool], gout := [] }
def cl_iTableTimes : List (Nat × Sig) := [(29, sg_iTableValid), (10, sg_need), (14, sg_times), (13, sg_add), (28, sg_gotTable)]
theorem run_iTableTimes : run ⟨Tryd.prog, glb, cl_iTableTimes⟩ [] Tryd.f8 sg_iTableTimes (Tryd.f8.body.getD .skip) = tr_iTableTimes := by kernel_rfl
theorem om_iTableTimes : ΩOK ⟨Tryd.prog, glb, cl_iTableTimes⟩ (specsOf Fs_iTableTimes) := (ΩOK_cons cong_iTableValid Tryd.call29 (ΩOK_cons cong_need Tryd.call10 (ΩOK_cons cong_times Tryd.call14 (ΩOK_cons cong_add Tryd.call13 (ΩOK_cons cong_gotTable Tryd.call28 ΩOK_nil)))))
theorem con_iTableTimes : ConOK Tryd.prog glb 8 sg_iTableTimes F_iTableTimes.spec := conOK_tree om_iTableTimes mixed Tryd.func8 (by kernel_rfl) run_iTableTimes
theorem cong_iTableTimes : ConOK Tryd.prog glb 8 sg_iTableTimes G_iTableTimes.spec := con_iTableTimes.as as_iTableTimes

def sg_l3Inner : Sig := { args := [.ag [.e (.var 0), .e (.var 1), .e (.var 2)], .ag [.e (.var 3), .e (.var 4), .e (.var 5)], .ag [.e (.var 6), .e (.var 7), .e (.var 8)], .ag [.e (.var 9), .e (.var 10), .e (.var 11)]], pre := [], tin := [.int .i64, .int .i64, .int .i64, .int .i64, .int .i64, .int .i64, .int .i64, .int .i64, .int .i64, .int .i64, .int .i64, .int .i64], gin := [], res := .tu [.ag [.e (.var 0), .e (.var 1), .e (.var 2)], .s (.e (.var 3))], post := [], tout := [.int .i64, .int .i64, .int .i64, .bool], gout := [] }
def cl_l3Inner : List (Nat × Sig) := [(37, sg_sFracTimes), (38, sg_sFracAdd)]
theorem run_l3Inner : run ⟨Tryd.prog, glb, cl_l3Inner⟩ [] Tryd.f17 sg_l3Inner (Tryd.f17.body.getD .skip) = tr_l3Inner := by kernel_rfl
theorem om_l3Inner : ΩOK ⟨Tryd.prog, glb, cl_l3Inner⟩ (specsOf Fs_l3Inner) := (ΩOK_cons cong_sFracTimes Tryd.call37 (ΩOK_cons cong_sFracAdd Tryd.call38 ΩOK_nil))
theorem con_l3Inner : ConOK Tryd.prog glb 17 sg_l3Inner F_l3Inner.spec := conOK_tree om_l3Inner mixed Tryd.func17 (by kernel_rfl) run_l3Inner
theorem cong_l3Inner : ConOK Tryd.prog glb 17 sg_l3Inner G_l3Inner.spec := con_l3Inner.as as_l3Inner

def sg_iMatValid : Sig := { args := [.ag [.e (.var 0), .e (.var 1), .e (.var 2), .e (.var 3), .e (.var 4), .e (.var 5), .e (.var 6), .e (.var 7), .e (.var 8), .e (.var 9), .e (.var 10), .e (.var 11)]], pre := [], tin := [.int .i64, .int .i64, .int .i64, .int .i64, .int .i64, .int .i64, .int .i64, .int .i64, .int .i64, .int .i64, .int .i64, .int .i64], gin := [], res := .c (.s (.e (.var 0))), post := [], tout := [.bool], gout := [] }
def cl_iMatValid : List (Nat × Sig) := [(32, sg_iFracValid)]
theorem run_iMatValid : run ⟨Tryd.prog, glb, cl_iMatValid⟩ [] Tryd.f11 sg_iMatValid (Tryd.f11.body.getD .skip) = tr_iMatValid := by kernel_rfl
theorem om_iMatValid : ΩOK ⟨Tryd.prog, glb, cl_iMatValid⟩ (specsOf Fs_iMatValid) := (ΩOK_cons cong_iFracValid Tryd.call32 ΩOK_nil)
theorem con_iMatValid : ConOK Tryd.prog glb 11 sg_iMatValid F_iMatValid.spec := conOK_tree om_iMatValid mixed Tryd.func11 (by kernel_rfl) run_iMatValid
theorem cong_iMatValid : ConOK Tryd.prog glb 11 sg_iMatValid G_iMatValid.spec := con_iMatValid.as as_iMatValid

def sg_sMatValid : Sig := { args := [.ag [.e (.var 0), .e (.var 1), .e (.var 2), .e (.var 3), .e (.var 4), .e (.var 5), .e (.var 6), .e (.var 7), .e (.var 8), .e (.var 9), .e (.var 10), .e (.var 11)]], pre := [], tin := [.int .i64, .int .i64, .int .i64, .int .i64, .int .i64, .int .i64, .int .i64, .int .i64, .int .i64, .int .i64, .int .i64, .int .i64], gin := [], res := .c (.s (.e (.var 0))), post := [], tout := [.bool], gout := [] }
def cl_sMatValid : List (Nat × Sig) := [(36, sg_sFracValid)]
theorem run_sMatValid : run ⟨Tryd.prog, glb, cl_sMatValid⟩ [] Tryd.f16 sg_sMatValid (Tryd.f16.body.getD .skip) = tr_sMatValid := by kernel_rfl
theorem om_sMatValid : ΩOK ⟨Tryd.prog, glb, cl_sMatValid⟩ (specsOf Fs_sMatValid) := (ΩOK_cons cong_sFracValid Tryd.call36 ΩOK_nil)
theorem con_sMatValid : ConOK Tryd.prog glb 16 sg_sMatValid F_sMatValid.spec := conOK_tree om_sMatValid mixed Tryd.func16 (by kernel_rfl) run_sMatValid
theorem cong_sMatValid : ConOK Tryd.prog glb 16 sg_sMatValid G_sMatValid.spec := con_sMatValid.as as_sMatValid

def sg_iFracLess : Sig := { args := [.ag [.e (.var 0), .e (.var 1), .e (.var 2)], .ag [.e (.var 3), .e (.var 4), .e (.var 5)]], pre := [], tin := [.int .i64, .int .i64, .int .i64, .int .i64, .int .i64, .int .i64], gin := [], res := .tu [.ag [.e (.var 0), .e (.var 1), .e (.var 2)], .s (.e (.var 3))], post := [], tout := [.int .i64, .int .i64, .int .i64, .bool], gout := [] }
def cl_iFracLess : List (Nat × Sig) := [(32, sg_iFracValid), (43, sg_lowest)]
theorem run_iFracLess : run ⟨Tryd.prog, glb, cl_iFracLess⟩ [] Tryd.f42 sg_iFracLess (Tryd.f42.body.getD .skip) = tr_iFracLess := by kernel_rfl
theorem om_iFracLess : ΩOK ⟨Tryd.prog, glb, cl_iFracLess⟩ (specsOf Fs_iFracLess) := (ΩOK_cons cong_iFracValid Tryd.call32 (ΩOK_cons cong_lowest Tryd.call43 ΩOK_nil))
theorem con_iFracLess : ConOK Tryd.prog glb 42 sg_iFracLess F_iFracLess.spec := conOK_tree om_iFracLess mixed Tryd.func42 (by kernel_rfl) run_iFracLess
theorem cong_iFracLess : ConOK Tryd.prog glb 42 sg_iFracLess G_iFracLess.spec := con_iFracLess.as as_iFracLess

def sg_iFracMirror : Sig := { args := [.ag [.e (.var 0), .e (.var 1), .e (.var 2)]], pre := [], tin := [.int .i64, .int .i64, .int .i64], gin := [], res := .tu [.ag [.e (.var 0), .e (.var 1), .e (.var 2)], .s (.e (.var 3))], post := [], tout := [.int .i64, .int .i64, .int .i64, .bool], gout := [] }
def cl_iFracMirror : List (Nat × Sig) := [(32, sg_iFracValid)]
theorem run_iFracMirror : run ⟨Tryd.prog, glb, cl_iFracMirror⟩ [] Tryd.f40 sg_iFracMirror (Tryd.f40.body.getD .skip) = tr_iFracMirror := by kernel_rfl
theorem om_iFracMirror : ΩOK ⟨Tryd.prog, glb, cl_iFracMirror⟩ (specsOf Fs_iFracMirror) := (ΩOK_cons cong_iFracValid Tryd.call32 ΩOK_nil)
theorem con_iFracMirror : ConOK Tryd.prog glb 40 sg_iFracMirror F_iFracMirror.spec := conOK_tree om_iFracMirror mixed Tryd.func40 (by kernel_rfl) run_iFracMirror
theorem cong_iFracMirror : ConOK Tryd.prog glb 40 sg_iFracMirror G_iFracMirror.spec := con_iFracMirror.as as_iFracMirror

def sg_sFracMirror : Sig := { args := [.ag [.e (.var 0), .e (.var 1), .e (.var 2)]], pre := [], tin := [.int .i64, .int .i64, .int .i64], gin := [], res := .tu [.ag [.e (.var 0), .e (.var 1), .e (.var 2)], .s (.e (.var 3))], post := [], tout := [.int .i64, .int .i64, .int .i64, .bool], gout := [] }
def cl_sFracMirror : List (Nat × Sig) := [(36, sg_sFracValid)]
theorem run_sFracMirror : run ⟨Tryd.prog, glb, cl_sFracMirror⟩ [] Tryd.f64 sg_sFracMirror (Tryd.f64.body.getD .skip) = tr_sFracMirror := by kernel_rfl
theorem om_sFracMirror : ΩOK ⟨Tryd.prog, glb, cl_sFracMirror⟩ (specsOf Fs_sFracMirror) := (ΩOK_cons cong_sFracValid Tryd.call36 ΩOK_nil)
theorem con_sFracMirror : ConOK Tryd.prog glb 64 sg_sFracMirror F_sFracMirror.spec := conOK_tree om_sFracMirror mixed Tryd.func64 (by kernel_rfl) run_sFracMirror
theorem cong_sFracMirror : ConOK Tryd.prog glb 64 sg_sFracMirror G_sFracMirror.spec := con_sFracMirror.as as_sFracMirror

def sg_iFracPower : Sig := { args := [.ag [.e (.var 0), .e (.var 1), .e (.var 2)]], pre := [], tin := [.int .i64, .int .i64, .int .i64], gin := [], res := .tu [.ag [.e (.var 0), .e (.var 1), .e (.var 2)], .s (.e (.var 3))], post := [], tout := [.int .i64, .int .i64, .int .i64, .bool], gout := [] }
def cl_iFracPower : List (Nat × Sig) := [(32, sg_iFracValid), (43, sg_lowest)]
theorem run_iFracPower : run ⟨Tryd.prog, glb, cl_iFracPower⟩ [] Tryd.f39 sg_iFracPower (Tryd.f39.body.getD .skip) = tr_iFracPower := by kernel_rfl
theorem om_iFracPower : ΩOK ⟨Tryd.prog, glb, cl_iFracPower⟩ (specsOf Fs_iFracPower) := (ΩOK_cons cong_iFracValid Tryd.call32 (ΩOK_cons cong_lowest Tryd.call43 ΩOK_nil))
theorem con_iFracPower : ConOK Tryd.prog glb 39 sg_iFracPower F_iFracPower.spec := conOK_tree om_iFracPower mixed Tryd.func39 (by kernel_rfl) run_iFracPower
theorem cong_iFracPower : ConOK Tryd.prog glb 39 sg_iFracPower G_iFracPower.spec := con_iFracPower.as as_iFracPower

def sg_iHalf : Sig := { args := [.ag [.e (.var 0), .e (.var 1), .e (.var 2)], .ag [.e (.int .i64 (2)), .e (.int .i64 (0)), .e (.int .i64 (1))]], pre := [], tin := [.int .i64, .int .i64, .int .i64], gin := [], res := .tu [.ag [.e (.var 0), .e (.var 1), .e (.var 2)], .s (.e (.var 3))], post := [], tout := [.int .i64, .int .i64, .int .i64, .bool], gout := [] }
def cl_iHalf : List (Nat × Sig) := [(32, sg_iFracValid), (43, sg_lowest), (35, sg_iFracTimes)]
theorem run_iHalf : run ⟨Tryd.prog, glb, cl_iHalf⟩ [] Tryd.f41 sg_iHalf (Tryd.f41.body.getD .skip) = tr_iHalf := by kernel_rfl
theorem om_iHalf : ΩOK ⟨Tryd.prog, glb, cl_iHalf⟩ (specsOf Fs_iHalf) := (ΩOK_cons cong_iFracValid Tryd.call32 (ΩOK_cons cong_lowest Tryd.call43 (ΩOK_cons cong_iFracTimes Tryd.call35 ΩOK_nil)))
theorem con_iHalf : ConOK Tryd.prog glb 41 sg_iHalf F_iHalf.spec := conOK_tree om_iHalf mixed Tryd.func41 (by kernel_rfl) run_iHalf
theorem cong_iHalf : ConOK Tryd.prog glb 41 sg_iHalf G_iHalf.spec := con_iHalf.as as_iHalf

def sg_whole2 : Sig := { args := [.s (.e (.int .i64 (2)))], pre := [], tin := [], gin := [], res := .c (.ag [.e (.int .i64 (2)), .e (.int .i64 (0)), .e (.int .i64 (1))]), post := [], tout := [], gout := [] }
def cl_whole2 : List (Nat × Sig) := []
theorem run_whole2 : run ⟨Tryd.prog, glb, cl_whole2⟩ [] Tryd.f24 sg_whole2 (Tryd.f24.body.getD .skip) = tr_whole2 := by kernel_rfl
theorem om_whole2 : ΩOK ⟨Tryd.prog, glb, cl_whole2⟩ (specsOf Fs_whole2) := ΩOK_nil
theorem con_whole2 : ConOK Tryd.prog glb 24 sg_whole2 F_whole2.spec := conOK_tree om_whole2 mixed Tryd.func24 (by kernel_rfl) run_whole2

def sg_less : Sig := { args := [.s (.p (.own 0) 0), .ag [.e (.var 0), .e (.var 1), .e (.var 2)], .ag [.e (.var 3), .e (.var 4), .e (.var 5)]], pre := [⟨[.e (.var 6)], 41⟩], tin := [.int .i64, .int .i64, .int .i64, .int .i64, .int .i64, .int .i64, .bool], gin := [], res := .c (.ag [.e (.var 0), .e (.var 1), .e (.var 2)]), post := [⟨[.e (.var 3)], 41⟩], tout := [.int .i64, .int .i64, .int .i64, .bool], gout := [] }
def cl_less : List (Nat × Sig) := [(42, sg_iFracLess), (33, sg_keep)]
theorem run_less : run ⟨Tryd.prog, glb, cl_less⟩ [] Tryd.f25 sg_less (Tryd.f25.body.getD .skip) = tr_less := by kernel_rfl
theorem om_less : ΩOK ⟨Tryd.prog, glb, cl_less⟩ (specsOf Fs_less) := (ΩOK_cons cong_iFracLess Tryd.call42 (ΩOK_cons con_keep Tryd.call33 ΩOK_nil))
theorem con_less : ConOK Tryd.prog glb 25 sg_less F_less.spec := conOK_tree om_less mixed Tryd.func25 (by kernel_rfl) run_less
theorem cong_less : ConOK Tryd.prog glb 25 sg_less G_less.spec := con_less.as as_less

def sg_mirror : Sig := { args := [.s (.p (.own 0) 0), .ag [.e (.var 0), .e (.var 1), .e (.var 2)]], pre := [⟨[.e (.var 3)], 41⟩], tin := [.int .i64, .int .i64, .int .i64, .bool], gin := [], res := .c (.ag [.e (.var 0), .e (.var 1), .e (.var 2)]), post := [⟨[.e (.var 3)], 41⟩], tout := [.int .i64, .int .i64, .int .i64, .bool], gout := [] }
def cl_mirror : List (Nat × Sig) := [(40, sg_iFracMirror), (33, sg_keep)]
theorem run_mirror : run ⟨Tryd.prog, glb, cl_mirror⟩ [] Tryd.f21 sg_mirror (Tryd.f21.body.getD .skip) = tr_mirror := by kernel_rfl
theorem om_mirror : ΩOK ⟨Tryd.prog, glb, cl_mirror⟩ (specsOf Fs_mirror) := (ΩOK_cons cong_iFracMirror Tryd.call40 (ΩOK_cons con_keep Tryd.call33 ΩOK_nil))
theorem con_mirror : ConOK Tryd.prog glb 21 sg_mirror F_mirror.spec := conOK_tree om_mirror mixed Tryd.func21 (by kernel_rfl) run_mirror
theorem cong_mirror : ConOK Tryd.prog glb 21 sg_mirror G_mirror.spec := con_mirror.as as_mirror

def sg_power : Sig := { args := [.s (.p (.own 0) 0), .ag [.e (.var 0), .e (.var 1), .e (.var 2)]], pre := [⟨[.e (.var 3)], 41⟩], tin := [.int .i64, .int .i64, .int .i64, .bool], gin := [], res := .c (.ag [.e (.var 0), .e (.var 1), .e (.var 2)]), post := [⟨[.e (.var 3)], 41⟩], tout := [.int .i64, .int .i64, .int .i64, .bool], gout := [] }
def cl_power : List (Nat × Sig) := [(39, sg_iFracPower), (33, sg_keep)]
theorem run_power : run ⟨Tryd.prog, glb, cl_power⟩ [] Tryd.f19 sg_power (Tryd.f19.body.getD .skip) = tr_power := by kernel_rfl
theorem om_power : ΩOK ⟨Tryd.prog, glb, cl_power⟩ (specsOf Fs_power) := (ΩOK_cons cong_iFracPower Tryd.call39 (ΩOK_cons con_keep Tryd.call33 ΩOK_nil))
theorem con_power : ConOK Tryd.prog glb 19 sg_power F_power.spec := conOK_tree om_power mixed Tryd.func19 (by kernel_rfl) run_power
theorem cong_power : ConOK Tryd.prog glb 19 sg_power G_power.spec := con_power.as as_power

def sg_overTwo : Sig := { args := [.s (.p (.own 0) 0), .ag [.e (.var 0), .e (.var 1), .e (.var 2)], .ag [.e (.int .i64 (2)), .e (.int .i64 (0)), .e (.int .i64 (1))]], pre := [⟨[.e (.var 3)], 41⟩], tin := [.int .i64, .int .i64, .int .i64, .bool], gin := [], res := .c (.ag [.e (.var 0), .e (.var 1), .e (.var 2)]), post := [⟨[.e (.var 3)], 41⟩], tout := [.int .i64, .int .i64, .int .i64, .bool], gout := [] }
def cl_overTwo : List (Nat × Sig) := [(41, sg_iHalf), (33, sg_keep)]
theorem run_overTwo : run ⟨Tryd.prog, glb, cl_overTwo⟩ [] Tryd.f23 sg_overTwo (Tryd.f23.body.getD .skip) = tr_overTwo := by kernel_rfl
theorem om_overTwo : ΩOK ⟨Tryd.prog, glb, cl_overTwo⟩ (specsOf Fs_overTwo) := (ΩOK_cons cong_iHalf Tryd.call41 (ΩOK_cons con_keep Tryd.call33 ΩOK_nil))
theorem con_overTwo : ConOK Tryd.prog glb 23 sg_overTwo F_overTwo.spec := conOK_tree om_overTwo mixed Tryd.func23 (by kernel_rfl) run_overTwo
theorem cong_overTwo : ConOK Tryd.prog glb 23 sg_overTwo G_overTwo.spec := con_overTwo.as as_overTwo

def sg_real : Sig := { args := [.s (.p (.own 0) 0), .ag [.e (.var 0), .e (.var 1), .e (.var 2)]], pre := [⟨[.e (.var 3)], 41⟩], tin := [.int .i64, .int .i64, .int .i64, .bool], gin := [], res := .c (.ag [.e (.var 0), .e (.var 1), .e (.var 2)]), post := [⟨[.e (.var 3)], 41⟩], tout := [.int .i64, .int .i64, .int .i64, .bool], gout := [] }
def cl_real : List (Nat × Sig) := [(32, sg_iFracValid), (43, sg_lowest), (33, sg_keep)]
theorem run_real : run ⟨Tryd.prog, glb, cl_real⟩ [] Tryd.f26 sg_real (Tryd.f26.body.getD .skip) = tr_real := by kernel_rfl
theorem om_real : ΩOK ⟨Tryd.prog, glb, cl_real⟩ (specsOf Fs_real) := (ΩOK_cons cong_iFracValid Tryd.call32 (ΩOK_cons cong_lowest Tryd.call43 (ΩOK_cons con_keep Tryd.call33 ΩOK_nil)))
theorem con_real : ConOK Tryd.prog glb 26 sg_real F_real.spec := conOK_tree om_real mixed Tryd.func26 (by kernel_rfl) run_real
theorem cong_real : ConOK Tryd.prog glb 26 sg_real G_real.spec := con_real.as as_real

def sg_imag : Sig := { args := [.s (.p (.own 0) 0), .ag [.e (.var 0), .e (.var 1), .e (.var 2)]], pre := [⟨[.e (.var 3)], 41⟩], tin := [.int .i64, .int .i64, .int .i64, .bool], gin := [], res := .c (.ag [.e (.var 0), .e (.var 1), .e (.var 2)]), post := [⟨[.e (.var 3)], 41⟩], tout := [.int .i64, .int .i64, .int .i64, .bool], gout := [] }
def cl_imag : List (Nat × Sig) := [(32, sg_iFracValid), (43, sg_lowest), (33, sg_keep)]
theorem run_imag : run ⟨Tryd.prog, glb, cl_imag⟩ [] Tryd.f27 sg_imag (Tryd.f27.body.getD .skip) = tr_imag := by kernel_rfl
theorem om_imag : ΩOK ⟨Tryd.prog, glb, cl_imag⟩ (specsOf Fs_imag) := (ΩOK_cons cong_iFracValid Tryd.call32 (ΩOK_cons cong_lowest Tryd.call43 (ΩOK_cons con_keep Tryd.call33 ΩOK_nil)))
theorem con_imag : ConOK Tryd.prog glb 27 sg_imag F_imag.spec := conOK_tree om_imag mixed Tryd.func27 (by kernel_rfl) run_imag
theorem cong_imag : ConOK Tryd.prog glb 27 sg_imag G_imag.spec := con_imag.as as_imag

def sg_iPair : Sig := { args := [.ag [.e (.var 0), .e (.var 1), .e (.var 2)], .ag [.e (.var 3), .e (.var 4), .e (.var 5)], .s (.p (.own 0) 0)], pre := [⟨[.p (.own 1) 0], 39⟩, ⟨[.e (.var 6)], 41⟩], tin := [.int .i64, .int .i64, .int .i64, .int .i64, .int .i64, .int .i64, .bool], gin := [], res := .c (.ag [.e (.var 0), .e (.var 1), .e (.var 2)]), post := [⟨[.p (.own 1) 0], 39⟩, ⟨[.e (.var 3)], 41⟩], tout := [.int .i64, .int .i64, .int .i64, .bool], gout := [] }
def cl_iPair : List (Nat × Sig) := [(21, sg_mirror), (14, sg_times)]
theorem run_iPair : run ⟨Tryd.prog, glb, cl_iPair⟩ [] Tryd.f20 sg_iPair (Tryd.f20.body.getD .skip) = tr_iPair := by kernel_rfl
theorem om_iPair : ΩOK ⟨Tryd.prog, glb, cl_iPair⟩ (specsOf Fs_iPair) := (ΩOK_cons cong_mirror Tryd.call21 (ΩOK_cons cong_times Tryd.call14 ΩOK_nil))
theorem con_iPair : ConOK Tryd.prog glb 20 sg_iPair F_iPair.spec := conOK_tree om_iPair mixed Tryd.func20 (by kernel_rfl) run_iPair
theorem cong_iPair : ConOK Tryd.prog glb 20 sg_iPair G_iPair.spec := con_iPair.as as_iPair

def sg_iHalfS : Sig := { args := [.ag [.e (.var 0), .e (.var 1), .e (.var 2)], .s (.p (.own 0) 0)], pre := [⟨[.p (.own 1) 0], 39⟩, ⟨[.e (.var 3)], 41⟩], tin := [.int .i64, .int .i64, .int .i64, .bool], gin := [], res := .c (.ag [.e (.var 0), .e (.var 1), .e (.var 2)]), post := [⟨[.p (.own 1) 0], 39⟩, ⟨[.e (.var 3)], 41⟩], tout := [.int .i64, .int .i64, .int .i64, .bool], gout := [] }
def cl_iHalfS : List (Nat × Sig) := [(24, sg_whole2), (23, sg_overTwo)]
theorem run_iHalfS : run ⟨Tryd.prog, glb, cl_iHalfS⟩ [] Tryd.f22 sg_iHalfS (Tryd.f22.body.getD .skip) = tr_iHalfS := by kernel_rfl
theorem om_iHalfS : ΩOK ⟨Tryd.prog, glb, cl_iHalfS⟩ (specsOf Fs_iHalfS) := (ΩOK_cons con_whole2 Tryd.call24 (ΩOK_cons cong_overTwo Tryd.call23 ΩOK_nil))
theorem con_iHalfS : ConOK Tryd.prog glb 22 sg_iHalfS F_iHalfS.spec := conOK_tree om_iHalfS mixed Tryd.func22 (by kernel_rfl) run_iHalfS
theorem cong_iHalfS : ConOK Tryd.prog glb 22 sg_iHalfS G_iHalfS.spec := con_iHalfS.as as_iHalfS

def sg_iTableOf : Sig := { args := [.ag [.e (.var 0), .e (.var 1), .e (.var 2), .e (.var 3), .e (.var 4), .e (.var 5), .e (.var 6), .e (.var 7), .e (.var 8), .e (.var 9), .e (.var 10), .e (.var 11)]], pre := [], tin := [.int .i64, .int .i64, .int .i64, .int .i64, .int .i64, .int .i64, .int .i64, .int .i64, .int .i64, .int .i64, .int .i64, .int .i64], gin := [], res := .tu [.ag [.e (.var 0), .e (.var 1), .e (.var 2), .e (.var 3), .e (.var 4), .e (.var 5), .e (.var 6), .e (.var 7), .e (.var 8), .e (.var 9), .e (.var 10), .e (.var 11), .e (.var 12), .e (.var 13), .e (.var 14), .e (.var 15), .e (.var 16), .e (.var 17), .e (.var 18), .e (.var 19), .e (.var 20), .e (.var 21), .e (.var 22), .e (.var 23), .e (.var 24), .e (.var 25), .e (.var 26), .e (.var 27), .e (.var 28), .e (.var 29), .e (.var 30), .e (.var 31), .e (.var 32), .e (.var 33), .e (.var 34), .e (.var 35), .e (.var 36), .e (.var 37), .e (.var 38), .e (.var 39), .e (.var 40), .e (.var 41), .e (.var 42), .e (.var 43), .e (.var 44), .e (.var 45), .e (.var 46), .e (.var 47)], .s (.e (.var 48))], post := [], tout := [.int .i64, .int .i64, .int .i64, .int .i64, .int .i64, .int .i64, .int .i64, .int .i64, .int .i64, .int .i64, .int .i64, .int .i64, .int .i64, .int .i64, .int .i64, .int .i64, .int .i64, .int .i64, .int .i64, .int .i64, .int .i64, .int .i64, .int .i64, .int .i64, .int .i64, .int .i64, .int .i64, .int .i64, .int .i64, .int .i64, .int .i64, .int .i64, .int .i64, .int .i64, .int .i64, .int .i64, .int .i64, .int .i64, .int .i64, .int .i64, .int .i64, .int .i64, .int .i64, .int .i64, .int .i64, .int .i64, .int .i64, .int .i64, .bool], gout := [] }
def cl_iTableOf : List (Nat × Sig) := [(11, sg_iMatValid), (10, sg_need), (19, sg_power), (20, sg_iPair), (22, sg_iHalfS), (13, sg_add), (25, sg_less), (26, sg_real), (27, sg_imag), (28, sg_gotTable)]
theorem run_iTableOf : run ⟨Tryd.prog, glb, cl_iTableOf⟩ [] Tryd.f7 sg_iTableOf (Tryd.f7.body.getD .skip) = tr_iTableOf := by kernel_rfl
theorem om_iTableOf : ΩOK ⟨Tryd.prog, glb, cl_iTableOf⟩ (specsOf Fs_iTableOf) := (ΩOK_cons cong_iMatValid Tryd.call11 (ΩOK_cons cong_need Tryd.call10 (ΩOK_cons cong_power Tryd.call19 (ΩOK_cons cong_iPair Tryd.call20 (ΩOK_cons cong_iHalfS Tryd.call22 (ΩOK_cons cong_add Tryd.call13 (ΩOK_cons cong_less Tryd.call25 (ΩOK_cons cong_real Tryd.call26 (ΩOK_cons cong_imag Tryd.call27 (ΩOK_cons cong_gotTable Tryd.call28 ΩOK_nil))))))))))
theorem con_iTableOf : ConOK Tryd.prog glb 7 sg_iTableOf F_iTableOf.spec := conOK_tree om_iTableOf mixed Tryd.func7 (by kernel_rfl) run_iTableOf
theorem cong_iTableOf : ConOK Tryd.prog glb 7 sg_iTableOf G_iTableOf.spec := con_iTableOf.as as_iTableOf

def sg_mcell00 : Sig := { args := [.s (.e (.int .i64 (0))), .s (.e (.int .i64 (0))), .s (.p (.own 0) 0), .s (.p (.own 1) 0), .s (.p (.own 2) 0)], pre := [⟨[.p (.own 3) 0], 39⟩, ⟨[.e (.var 0), .e (.var 1), .e (.var 2), .e (.var 3), .e (.var 4), .e (.var 5), .e (.var 6), .e (.var 7), .e (.var 8), .e (.var 9), .e (.var 10), .e (.var 11)], 27⟩, ⟨[.e (.var 12), .e (.var 13), .e (.var 14), .e (.var 15), .e (.var 16), .e (.var 17), .e (.var 18), .e (.var 19), .e (.var 20), .e (.var 21), .e (.var 22), .e (.var 23)], 27⟩, ⟨[.e (.var 24)], 41⟩], tin := [.int .i64, .int .i64, .int .i64, .int .i64, .int .i64, .int .i64, .int .i64, .int .i64, .int .i64, .int .i64, .int .i64, .int .i64, .int .i64, .int .i64, .int .i64, .int .i64, .int .i64, .int .i64, .int .i64, .int .i64, .int .i64, .int .i64, .int .i64, .int .i64, .bool], gin := [], res := .c (.ag [.e (.var 0), .e (.var 1), .e (.var 2)]), post := [⟨[.p (.own 3) 0], 39⟩, ⟨[.e (.var 3), .e (.var 4), .e (.var 5), .e (.var 6), .e (.var 7), .e (.var 8), .e (.var 9), .e (.var 10), .e (.var 11), .e (.var 12), .e (.var 13), .e (.var 14)], 27⟩, ⟨[.e (.var 15), .e (.var 16), .e (.var 17), .e (.var 18), .e (.var 19), .e (.var 20), .e (.var 21), .e (.var 22), .e (.var 23), .e (.var 24), .e (.var 25), .e (.var 26)], 27⟩, ⟨[.e (.var 27)], 41⟩], tout := [.int .i64, .int .i64, .int .i64, .int .i64, .int .i64, .int .i64, .int .i64, .int .i64, .int .i64, .int .i64, .int .i64, .int .i64, .int .i64, .int .i64, .int .i64, .int .i64, .int .i64, .int .i64, .int .i64, .int .i64, .int .i64, .int .i64, .int .i64, .int .i64, .int .i64, .int .i64, .int .i64, .bool], gout := [] }
def cl_mcell00 : List (Nat × Sig) := [(14, sg_times), (13, sg_add)]
theorem run_mcell00 : run ⟨Tryd.prog, glb, cl_mcell00⟩ [] Tryd.f12 sg_mcell00 (Tryd.f12.body.getD .skip) = tr_mcell00 := by kernel_rfl
theorem om_mcell00 : ΩOK ⟨Tryd.prog, glb, cl_mcell00⟩ (specsOf Fs_mcell00) := (ΩOK_cons cong_times Tryd.call14 (ΩOK_cons cong_add Tryd.call13 ΩOK_nil))
theorem con_mcell00 : ConOK Tryd.prog glb 12 sg_mcell00 F_mcell00.spec := conOK_tree om_mcell00 mixed Tryd.func12 (by kernel_rfl) run_mcell00
theorem cong_mcell00 : ConOK Tryd.prog glb 12 sg_mcell00 G_mcell00.spec := con_mcell00.as as_mcell00

def sg_mcell01 : Sig := { args := [.s (.e (.int .i64 (0))), .s (.e (.int .i64 (1))), .s (.p (.own 0) 0), .s (.p (.own 1) 0), .s (.p (.own 2) 0)], pre := [⟨[.p (.own 3) 0], 39⟩, ⟨[.e (.var 0), .e (.var 1), .e (.var 2), .e (.var 3), .e (.var 4), .e (.var 5), .e (.var 6), .e (.var 7), .e (.var 8), .e (.var 9), .e (.var 10), .e (.var 11)], 27⟩, ⟨[.e (.var 12), .e (.var 13), .e (.var 14), .e (.var 15), .e (.var 16), .e (.var 17), .e (.var 18), .e (.var 19), .e (.var 20), .e (.var 21), .e (.var 22), .e (.var 23)], 27⟩, ⟨[.e (.var 24)], 41⟩], tin := [.int .i64, .int .i64, .int .i64, .int .i64, .int .i64, .int .i64, .int .i64, .int .i64, .int .i64, .int .i64, .int .i64, .int .i64, .int .i64, .int .i64, .int .i64, .int .i64, .int .i64, .int .i64, .int .i64, .int .i64, .int .i64, .int .i64, .int .i64, .int .i64, .bool], gin := [], res := .c (.ag [.e (.var 0), .e (.var 1), .e (.var 2)]), post := [⟨[.p (.own 3) 0], 39⟩, ⟨[.e (.var 3), .e (.var 4), .e (.var 5), .e (.var 6), .e (.var 7), .e (.var 8), .e (.var 9), .e (.var 10), .e (.var 11), .e (.var 12), .e (.var 13), .e (.var 14)], 27⟩, ⟨[.e (.var 15), .e (.var 16), .e (.var 17), .e (.var 18), .e (.var 19), .e (.var 20), .e (.var 21), .e (.var 22), .e (.var 23), .e (.var 24), .e (.var 25), .e (.var 26)], 27⟩, ⟨[.e (.var 27)], 41⟩], tout := [.int .i64, .int .i64, .int .i64, .int .i64, .int .i64, .int .i64, .int .i64, .int .i64, .int .i64, .int .i64, .int .i64, .int .i64, .int .i64, .int .i64, .int .i64, .int .i64, .int .i64, .int .i64, .int .i64, .int .i64, .int .i64, .int .i64, .int .i64, .int .i64, .int .i64, .int .i64, .int .i64, .bool], gout := [] }
def cl_mcell01 : List (Nat × Sig) := [(14, sg_times), (13, sg_add)]
theorem run_mcell01 : run ⟨Tryd.prog, glb, cl_mcell01⟩ [] Tryd.f12 sg_mcell01 (Tryd.f12.body.getD .skip) = tr_mcell01 := by kernel_rfl
theorem om_mcell01 : ΩOK ⟨Tryd.prog, glb, cl_mcell01⟩ (specsOf Fs_mcell01) := (ΩOK_cons cong_times Tryd.call14 (ΩOK_cons cong_add Tryd.call13 ΩOK_nil))
theorem con_mcell01 : ConOK Tryd.prog glb 12 sg_mcell01 F_mcell01.spec := conOK_tree om_mcell01 mixed Tryd.func12 (by kernel_rfl) run_mcell01
theorem cong_mcell01 : ConOK Tryd.prog glb 12 sg_mcell01 G_mcell01.spec := con_mcell01.as as_mcell01

def sg_mcell10 : Sig := { args := [.s (.e (.int .i64 (1))), .s (.e (.int .i64 (0))), .s (.p (.own 0) 0), .s (.p (.own 1) 0), .s (.p (.own 2) 0)], pre := [⟨[.p (.own 3) 0], 39⟩, ⟨[.e (.var 0), .e (.var 1), .e (.var 2), .e (.var 3), .e (.var 4), .e (.var 5), .e (.var 6), .e (.var 7), .e (.var 8), .e (.var 9), .e (.var 10), .e (.var 11)], 27⟩, ⟨[.e (.var 12), .e (.var 13), .e (.var 14), .e (.var 15), .e (.var 16), .e (.var 17), .e (.var 18), .e (.var 19), .e (.var 20), .e (.var 21), .e (.var 22), .e (.var 23)], 27⟩, ⟨[.e (.var 24)], 41⟩], tin := [.int .i64, .int .i64, .int .i64, .int .i64, .int .i64, .int .i64, .int .i64, .int .i64, .int .i64, .int .i64, .int .i64, .int .i64, .int .i64, .int .i64, .int .i64, .int .i64, .int .i64, .int .i64, .int .i64, .int .i64, .int .i64, .int .i64, .int .i64, .int .i64, .bool], gin := [], res := .c (.ag [.e (.var 0), .e (.var 1), .e (.var 2)]), post := [⟨[.p (.own 3) 0], 39⟩, ⟨[.e (.var 3), .e (.var 4), .e (.var 5), .e (.var 6), .e (.var 7), .e (.var 8), .e (.var 9), .e (.var 10), .e (.var 11), .e (.var 12), .e (.var 13), .e (.var 14)], 27⟩, ⟨[.e (.var 15), .e (.var 16), .e (.var 17), .e (.var 18), .e (.var 19), .e (.var 20), .e (.var 21), .e (.var 22), .e (.var 23), .e (.var 24), .e (.var 25), .e (.var 26)], 27⟩, ⟨[.e (.var 27)], 41⟩], tout := [.int .i64, .int .i64, .int .i64, .int .i64, .int .i64, .int .i64, .int .i64, .int .i64, .int .i64, .int .i64, .int .i64, .int .i64, .int .i64, .int .i64, .int .i64, .int .i64, .int .i64, .int .i64, .int .i64, .int .i64, .int .i64, .int .i64, .int .i64, .int .i64, .int .i64, .int .i64, .int .i64, .bool], gout := [] }
def cl_mcell10 : List (Nat × Sig) := [(14, sg_times), (13, sg_add)]
theorem run_mcell10 : run ⟨Tryd.prog, glb, cl_mcell10⟩ [] Tryd.f12 sg_mcell10 (Tryd.f12.body.getD .skip) = tr_mcell10 := by kernel_rfl
theorem om_mcell10 : ΩOK ⟨Tryd.prog, glb, cl_mcell10⟩ (specsOf Fs_mcell10) := (ΩOK_cons cong_times Tryd.call14 (ΩOK_cons cong_add Tryd.call13 ΩOK_nil))
theorem con_mcell10 : ConOK Tryd.prog glb 12 sg_mcell10 F_mcell10.spec := conOK_tree om_mcell10 mixed Tryd.func12 (by kernel_rfl) run_mcell10
theorem cong_mcell10 : ConOK Tryd.prog glb 12 sg_mcell10 G_mcell10.spec := con_mcell10.as as_mcell10

def sg_mcell11 : Sig := { args := [.s (.e (.int .i64 (1))), .s (.e (.int .i64 (1))), .s (.p (.own 0) 0), .s (.p (.own 1) 0), .s (.p (.own 2) 0)], pre := [⟨[.p (.own 3) 0], 39⟩, ⟨[.e (.var 0), .e (.var 1), .e (.var 2), .e (.var 3), .e (.var 4), .e (.var 5), .e (.var 6), .e (.var 7), .e (.var 8), .e (.var 9), .e (.var 10), .e (.var 11)], 27⟩, ⟨[.e (.var 12), .e (.var 13), .e (.var 14), .e (.var 15), .e (.var 16), .e (.var 17), .e (.var 18), .e (.var 19), .e (.var 20), .e (.var 21), .e (.var 22), .e (.var 23)], 27⟩, ⟨[.e (.var 24)], 41⟩], tin := [.int .i64, .int .i64, .int .i64, .int .i64, .int .i64, .int .i64, .int .i64, .int .i64, .int .i64, .int .i64, .int .i64, .int .i64, .int .i64, .int .i64, .int .i64, .int .i64, .int .i64, .int .i64, .int .i64, .int .i64, .int .i64, .int .i64, .int .i64, .int .i64, .bool], gin := [], res := .c (.ag [.e (.var 0), .e (.var 1), .e (.var 2)]), post := [⟨[.p (.own 3) 0], 39⟩, ⟨[.e (.var 3), .e (.var 4), .e (.var 5), .e (.var 6), .e (.var 7), .e (.var 8), .e (.var 9), .e (.var 10), .e (.var 11), .e (.var 12), .e (.var 13), .e (.var 14)], 27⟩, ⟨[.e (.var 15), .e (.var 16), .e (.var 17), .e (.var 18), .e (.var 19), .e (.var 20), .e (.var 21), .e (.var 22), .e (.var 23), .e (.var 24), .e (.var 25), .e (.var 26)], 27⟩, ⟨[.e (.var 27)], 41⟩], tout := [.int .i64, .int .i64, .int .i64, .int .i64, .int .i64, .int .i64, .int .i64, .int .i64, .int .i64, .int .i64, .int .i64, .int .i64, .int .i64, .int .i64, .int .i64, .int .i64, .int .i64, .int .i64, .int .i64, .int .i64, .int .i64, .int .i64, .int .i64, .int .i64, .int .i64, .int .i64, .int .i64, .bool], gout := [] }
def cl_mcell11 : List (Nat × Sig) := [(14, sg_times), (13, sg_add)]
theorem run_mcell11 : run ⟨Tryd.prog, glb, cl_mcell11⟩ [] Tryd.f12 sg_mcell11 (Tryd.f12.body.getD .skip) = tr_mcell11 := by kernel_rfl
theorem om_mcell11 : ΩOK ⟨Tryd.prog, glb, cl_mcell11⟩ (specsOf Fs_mcell11) := (ΩOK_cons cong_times Tryd.call14 (ΩOK_cons cong_add Tryd.call13 ΩOK_nil))
theorem con_mcell11 : ConOK Tryd.prog glb 12 sg_mcell11 F_mcell11.spec := conOK_tree om_mcell11 mixed Tryd.func12 (by kernel_rfl) run_mcell11
theorem cong_mcell11 : ConOK Tryd.prog glb 12 sg_mcell11 G_mcell11.spec := con_mcell11.as as_mcell11

def sg_gotMat : Sig := { args := [.s (.p (.own 0) 0), .ag [.e (.var 0), .e (.var 1), .e (.var 2), .e (.var 3), .e (.var 4), .e (.var 5), .e (.var 6), .e (.var 7), .e (.var 8), .e (.var 9), .e (.var 10), .e (.var 11)]], pre := [⟨[.e (.var 12)], 41⟩], tin := [.int .i64, .int .i64, .int .i64, .int .i64, .int .i64, .int .i64, .int .i64, .int .i64, .int .i64, .int .i64, .int .i64, .int .i64, .bool], gin := [], res := .tu [.ag [.e (.var 0), .e (.var 1), .e (.var 2), .e (.var 3), .e (.var 4), .e (.var 5), .e (.var 6), .e (.var 7), .e (.var 8), .e (.var 9), .e (.var 10), .e (.var 11)], .s (.e (.var 12))], post := [⟨[.e (.var 13)], 41⟩], tout := [.int .i64, .int .i64, .int .i64, .int .i64, .int .i64, .int .i64, .int .i64, .int .i64, .int .i64, .int .i64, .int .i64, .int .i64, .bool, .bool], gout := [] }
def cl_gotMat : List (Nat × Sig) := []
theorem run_gotMat : run ⟨Tryd.prog, glb, cl_gotMat⟩ [] Tryd.f15 sg_gotMat (Tryd.f15.body.getD .skip) = tr_gotMat := by kernel_rfl
theorem om_gotMat : ΩOK ⟨Tryd.prog, glb, cl_gotMat⟩ (specsOf Fs_gotMat) := ΩOK_nil
theorem con_gotMat : ConOK Tryd.prog glb 15 sg_gotMat F_gotMat.spec := conOK_tree om_gotMat mixed Tryd.func15 (by kernel_rfl) run_gotMat
theorem cong_gotMat : ConOK Tryd.prog glb 15 sg_gotMat G_gotMat.spec := con_gotMat.as as_gotMat

def sg_iMatTimes : Sig := { args := [.ag [.e (.var 0), .e (.var 1), .e (.var 2), .e (.var 3), .e (.var 4), .e (.var 5), .e (.var 6), .e (.var 7), .e (.var 8), .e (.var 9), .e (.var 10), .e (.var 11)], .ag [.e (.var 12), .e (.var 13), .e (.var 14), .e (.var 15), .e (.var 16), .e (.var 17), .e (.var 18), .e (.var 19), .e (.var 20), .e (.var 21), .e (.var 22), .e (.var 23)]], pre := [], tin := [.int .i64, .int .i64, .int .i64, .int .i64, .int .i64, .int .i64, .int .i64, .int .i64, .int .i64, .int .i64, .int .i64, .int .i64, .int .i64, .int .i64, .int .i64, .int .i64, .int .i64, .int .i64, .int .i64, .int .i64, .int .i64, .int .i64, .int .i64, .int .i64], gin := [], res := .tu [.ag [.e (.var 0), .e (.var 1), .e (.var 2), .e (.var 3), .e (.var 4), .e (.var 5), .e (.var 6), .e (.var 7), .e (.var 8), .e (.var 9), .e (.var 10), .e (.var 11)], .s (.e (.var 12))], post := [], tout := [.int .i64, .int .i64, .int .i64, .int .i64, .int .i64, .int .i64, .int .i64, .int .i64, .int .i64, .int .i64, .int .i64, .int .i64, .bool], gout := [] }
def cl_iMatTimes : List (Nat × Sig) := [(11, sg_iMatValid), (10, sg_need), (12, sg_mcell00), (12, sg_mcell01), (12, sg_mcell10), (12, sg_mcell11), (15, sg_gotMat)]
theorem run_iMatTimes : run ⟨Tryd.prog, glb, cl_iMatTimes⟩ [] Tryd.f5 sg_iMatTimes (Tryd.f5.body.getD .skip) = tr_iMatTimes := by kernel_rfl
theorem om_iMatTimes : ΩOK ⟨Tryd.prog, glb, cl_iMatTimes⟩ (specsOf Fs_iMatTimes) := (ΩOK_cons cong_iMatValid Tryd.call11 (ΩOK_cons cong_need Tryd.call10 (ΩOK_cons cong_mcell00 Tryd.call12 (ΩOK_cons cong_mcell01 Tryd.call12 (ΩOK_cons cong_mcell10 Tryd.call12 (ΩOK_cons cong_mcell11 Tryd.call12 (ΩOK_cons cong_gotMat Tryd.call15 ΩOK_nil)))))))
theorem con_iMatTimes : ConOK Tryd.prog glb 5 sg_iMatTimes F_iMatTimes.spec := conOK_tree om_iMatTimes mixed Tryd.func5 (by kernel_rfl) run_iMatTimes
theorem cong_iMatTimes : ConOK Tryd.prog glb 5 sg_iMatTimes G_iMatTimes.spec := con_iMatTimes.as as_iMatTimes

def sg_l5Four : Sig := { args := [.ag [.e (.var 0), .e (.var 1), .e (.var 2)], .ag [.e (.var 3), .e (.var 4), .e (.var 5)], .ag [.e (.var 6), .e (.var 7), .e (.var 8)], .ag [.e (.var 9), .e (.var 10), .e (.var 11)], .s (.e (.var 12))], pre := [], tin := [.int .i64, .int .i64, .int .i64, .int .i64, .int .i64, .int .i64, .int .i64, .int .i64, .int .i64, .int .i64, .int .i64, .int .i64, .bool], gin := [], res := .tu [.ag [.e (.var 0), .e (.var 1), .e (.var 2), .e (.var 3), .e (.var 4), .e (.var 5), .e (.var 6), .e (.var 7), .e (.var 8), .e (.var 9), .e (.var 10), .e (.var 11)], .s (.e (.var 12))], post := [], tout := [.int .i64, .int .i64, .int .i64, .int .i64, .int .i64, .int .i64, .int .i64, .int .i64, .int .i64, .int .i64, .int .i64, .int .i64, .bool], gout := [] }
def cl_l5Four : List (Nat × Sig) := []
theorem run_l5Four : run ⟨Tryd.prog, glb, cl_l5Four⟩ [] Tryd.f18 sg_l5Four (Tryd.f18.body.getD .skip) = tr_l5Four := by kernel_rfl
theorem om_l5Four : ΩOK ⟨Tryd.prog, glb, cl_l5Four⟩ (specsOf Fs_l5Four) := ΩOK_nil
theorem con_l5Four : ConOK Tryd.prog glb 18 sg_l5Four F_l5Four.spec := conOK_tree om_l5Four mixed Tryd.func18 (by kernel_rfl) run_l5Four
theorem cong_l5Four : ConOK Tryd.prog glb 18 sg_l5Four G_l5Four.spec := con_l5Four.as as_l5Four

def sg_sMatTimes : Sig := { args := [.ag [.e (.var 0), .e (.var 1), .e (.var 2), .e (.var 3), .e (.var 4), .e (.var 5), .e (.var 6), .e (.var 7), .e (.var 8), .e (.var 9), .e (.var 10), .e (.var 11)], .ag [.e (.var 12), .e (.var 13), .e (.var 14), .e (.var 15), .e (.var 16), .e (.var 17), .e (.var 18), .e (.var 19), .e (.var 20), .e (.var 21), .e (.var 22), .e (.var 23)]], pre := [], tin := [.int .i64, .int .i64, .int .i64, .int .i64, .int .i64, .int .i64, .int .i64, .int .i64, .int .i64, .int .i64, .int .i64, .int .i64, .int .i64, .int .i64, .int .i64, .int .i64, .int .i64, .int .i64, .int .i64, .int .i64, .int .i64, .int .i64, .int .i64, .int .i64], gin := [], res := .tu [.ag [.e (.var 0), .e (.var 1), .e (.var 2), .e (.var 3), .e (.var 4), .e (.var 5), .e (.var 6), .e (.var 7), .e (.var 8), .e (.var 9), .e (.var 10), .e (.var 11)], .s (.e (.var 12))], post := [], tout := [.int .i64, .int .i64, .int .i64, .int .i64, .int .i64, .int .i64, .int .i64, .int .i64, .int .i64, .int .i64, .int .i64, .int .i64, .bool], gout := [] }
def cl_sMatTimes : List (Nat × Sig) := [(16, sg_sMatValid), (17, sg_l3Inner), (18, sg_l5Four)]
theorem run_sMatTimes : run ⟨Tryd.prog, glb, cl_sMatTimes⟩ [] Tryd.f6 sg_sMatTimes (Tryd.f6.body.getD .skip) = tr_sMatTimes := by kernel_rfl
theorem om_sMatTimes : ΩOK ⟨Tryd.prog, glb, cl_sMatTimes⟩ (specsOf Fs_sMatTimes) := (ΩOK_cons cong_sMatValid Tryd.call16 (ΩOK_cons cong_l3Inner Tryd.call17 (ΩOK_cons cong_l5Four Tryd.call18 ΩOK_nil)))
theorem con_sMatTimes : ConOK Tryd.prog glb 6 sg_sMatTimes F_sMatTimes.spec := conOK_tree om_sMatTimes mixed Tryd.func6 (by kernel_rfl) run_sMatTimes
theorem cong_sMatTimes : ConOK Tryd.prog glb 6 sg_sMatTimes G_sMatTimes.spec := con_sMatTimes.as as_sMatTimes

def sg_l5One : Sig := { args := [.ag [.e (.var 0), .e (.var 1), .e (.var 2)], .ag [.e (.var 3), .e (.var 4), .e (.var 5)]], pre := [], tin := [.int .i64, .int .i64, .int .i64, .int .i64, .int .i64, .int .i64], gin := [], res := .c (.ag [.e (.var 0), .e (.var 1), .e (.var 2), .e (.var 3), .e (.var 4), .e (.var 5), .e (.var 6), .e (.var 7), .e (.var 8), .e (.var 9), .e (.var 10), .e (.var 11)]), post := [], tout := [.int .i64, .int .i64, .int .i64, .int .i64, .int .i64, .int .i64, .int .i64, .int .i64, .int .i64, .int .i64, .int .i64, .int .i64], gout := [] }
def cl_l5One : List (Nat × Sig) := []
theorem run_l5One : run ⟨Tryd.prog, glb, cl_l5One⟩ [] Tryd.f61 sg_l5One (Tryd.f61.body.getD .skip) = tr_l5One := by kernel_rfl
theorem om_l5One : ΩOK ⟨Tryd.prog, glb, cl_l5One⟩ (specsOf Fs_l5One) := ΩOK_nil
theorem con_l5One : ConOK Tryd.prog glb 61 sg_l5One F_l5One.spec := conOK_tree om_l5One mixed Tryd.func61 (by kernel_rfl) run_l5One

def sg_pick : Sig := { args := [.s (.p (.own 0) 0), .s (.e (.var 0))], pre := [⟨[.e (.var 1), .e (.var 2)], 63⟩], tin := [.int .i64, .sl, .int .i64, .row .u8 1], gin := [(1, 3, 1)], res := .c (.s (.e (.var 0))), post := [⟨[.e (.var 1), .e (.var 2)], 63⟩], tout := [.int .i64, .sl, .int .i64], gout := [] }
def cl_pick : List (Nat × Sig) := []
theorem run_pick : run ⟨Tryd.prog, glb, cl_pick⟩ [] Tryd.f46 sg_pick (Tryd.f46.body.getD .skip) = tr_pick := by kernel_rfl
theorem om_pick : ΩOK ⟨Tryd.prog, glb, cl_pick⟩ (specsOf Fs_pick) := ΩOK_nil
theorem con_pick : ConOK Tryd.prog glb 46 sg_pick F_pick.spec := conOK_tree om_pick mixed Tryd.func46 (by kernel_rfl) run_pick

def sg_sMatAdjoint : Sig := { args := [.ag [.e (.var 0), .e (.var 1), .e (.var 2), .e (.var 3), .e (.var 4), .e (.var 5), .e (.var 6), .e (.var 7), .e (.var 8), .e (.var 9), .e (.var 10), .e (.var 11)]], pre := [], tin := [.int .i64, .int .i64, .int .i64, .int .i64, .int .i64, .int .i64, .int .i64, .int .i64, .int .i64, .int .i64, .int .i64, .int .i64], gin := [], res := .tu [.ag [.e (.var 0), .e (.var 1), .e (.var 2), .e (.var 3), .e (.var 4), .e (.var 5), .e (.var 6), .e (.var 7), .e (.var 8), .e (.var 9), .e (.var 10), .e (.var 11)], .s (.e (.var 12))], post := [], tout := [.int .i64, .int .i64, .int .i64, .int .i64, .int .i64, .int .i64, .int .i64, .int .i64, .int .i64, .int .i64, .int .i64, .int .i64, .bool], gout := [] }
def cl_sMatAdjoint : List (Nat × Sig) := [(64, sg_sFracMirror), (18, sg_l5Four)]
theorem run_sMatAdjoint : run ⟨Tryd.prog, glb, cl_sMatAdjoint⟩ [] Tryd.f60 sg_sMatAdjoint (Tryd.f60.body.getD .skip) = tr_sMatAdjoint := by kernel_rfl
theorem om_sMatAdjoint : ΩOK ⟨Tryd.prog, glb, cl_sMatAdjoint⟩ (specsOf Fs_sMatAdjoint) := (ΩOK_cons cong_sFracMirror Tryd.call64 (ΩOK_cons cong_l5Four Tryd.call18 ΩOK_nil))
theorem con_sMatAdjoint : ConOK Tryd.prog glb 60 sg_sMatAdjoint F_sMatAdjoint.spec := conOK_tree om_sMatAdjoint mixed Tryd.func60 (by kernel_rfl) run_sMatAdjoint

def sg_sMatRotator : Sig := { args := [.s (.e (.var 0)), .s (.e (.var 1))], pre := [], tin := [.int .i64, .int .i64], gin := [], res := .tu [.ag [.e (.var 0), .e (.var 1), .e (.var 2), .e (.var 3), .e (.var 4), .e (.var 5), .e (.var 6), .e (.var 7), .e (.var 8), .e (.var 9), .e (.var 10), .e (.var 11)], .s (.e (.var 12))], post := [], tout := [.int .i64, .int .i64, .int .i64, .int .i64, .int .i64, .int .i64, .int .i64, .int .i64, .int .i64, .int .i64, .int .i64, .int .i64, .bool], gout := [] }
def cl_sMatRotator : List (Nat × Sig) := [(59, sg_l5Direction), (18, sg_l5Four)]
theorem run_sMatRotator : run ⟨Tryd.prog, glb, cl_sMatRotator⟩ [] Tryd.f47 sg_sMatRotator (Tryd.f47.body.getD .skip) = tr_sMatRotator := by kernel_rfl
theorem om_sMatRotator : ΩOK ⟨Tryd.prog, glb, cl_sMatRotator⟩ (specsOf Fs_sMatRotator) := (ΩOK_cons cong_l5Direction Tryd.call59 (ΩOK_cons cong_l5Four Tryd.call18 ΩOK_nil))
theorem con_sMatRotator : ConOK Tryd.prog glb 47 sg_sMatRotator F_sMatRotator.spec := conOK_tree om_sMatRotator mixed Tryd.func47 (by kernel_rfl) run_sMatRotator

def sg_l5PhaseK : Sig := { args := [.s (.e (.var 0))], pre := [], tin := [.int .i64], gin := [], res := .c (.ag [.e (.var 0), .e (.var 1), .e (.var 2)]), post := [], tout := [.int .i64, .int .i64, .int .i64], gout := [] }
def cl_l5PhaseK : List (Nat × Sig) := []
theorem run_l5PhaseK : run ⟨Tryd.prog, glb, cl_l5PhaseK⟩ [] Tryd.f62 sg_l5PhaseK (Tryd.f62.body.getD .skip) = tr_l5PhaseK := by kernel_rfl
theorem om_l5PhaseK : ΩOK ⟨Tryd.prog, glb, cl_l5PhaseK⟩ (specsOf Fs_l5PhaseK) := ΩOK_nil
theorem con_l5PhaseK : ConOK Tryd.prog glb 62 sg_l5PhaseK F_l5PhaseK.spec := conOK_tree om_l5PhaseK mixed Tryd.func62 (by kernel_rfl) run_l5PhaseK

def sg_sMatPlate : Sig := { args := [.s (.e (.var 0)), .s (.e (.var 1)), .s (.e (.var 2))], pre := [], tin := [.int .i64, .int .i64, .int .i64], gin := [], res := .tu [.ag [.e (.var 0), .e (.var 1), .e (.var 2), .e (.var 3), .e (.var 4), .e (.var 5), .e (.var 6), .e (.var 7), .e (.var 8), .e (.var 9), .e (.var 10), .e (.var 11)], .s (.e (.var 12))], post := [], tout := [.int .i64, .int .i64, .int .i64, .int .i64, .int .i64, .int .i64, .int .i64, .int .i64, .int .i64, .int .i64, .int .i64, .int .i64, .bool], gout := [] }
def cl_sMatPlate : List (Nat × Sig) := [(47, sg_sMatRotator), (55, sg_l6In), (60, sg_sMatAdjoint), (62, sg_l5PhaseK), (61, sg_l5One), (6, sg_sMatTimes)]
theorem run_sMatPlate : run ⟨Tryd.prog, glb, cl_sMatPlate⟩ [] Tryd.f48 sg_sMatPlate (Tryd.f48.body.getD .skip) = tr_sMatPlate := by kernel_rfl
theorem om_sMatPlate : ΩOK ⟨Tryd.prog, glb, cl_sMatPlate⟩ (specsOf Fs_sMatPlate) := (ΩOK_cons con_sMatRotator Tryd.call47 (ΩOK_cons cong_l6In Tryd.call55 (ΩOK_cons con_sMatAdjoint Tryd.call60 (ΩOK_cons con_l5PhaseK Tryd.call62 (ΩOK_cons con_l5One Tryd.call61 (ΩOK_cons cong_sMatTimes Tryd.call6 ΩOK_nil))))))
theorem con_sMatPlate : ConOK Tryd.prog glb 48 sg_sMatPlate F_sMatPlate.spec := conOK_tree om_sMatPlate mixed Tryd.func48 (by kernel_rfl) run_sMatPlate

def sg_sMatFilter : Sig := { args := [.s (.e (.var 0)), .s (.e (.var 1))], pre := [], tin := [.int .i64, .int .i64], gin := [], res := .tu [.ag [.e (.var 0), .e (.var 1), .e (.var 2), .e (.var 3), .e (.var 4), .e (.var 5), .e (.var 6), .e (.var 7), .e (.var 8), .e (.var 9), .e (.var 10), .e (.var 11)], .s (.e (.var 12))], post := [], tout := [.int .i64, .int .i64, .int .i64, .int .i64, .int .i64, .int .i64, .int .i64, .int .i64, .int .i64, .int .i64, .int .i64, .int .i64, .bool], gout := [] }
def cl_sMatFilter : List (Nat × Sig) := [(59, sg_l5Direction), (37, sg_sFracTimes), (18, sg_l5Four)]
theorem run_sMatFilter : run ⟨Tryd.prog, glb, cl_sMatFilter⟩ [] Tryd.f49 sg_sMatFilter (Tryd.f49.body.getD .skip) = tr_sMatFilter := by kernel_rfl
theorem om_sMatFilter : ΩOK ⟨Tryd.prog, glb, cl_sMatFilter⟩ (specsOf Fs_sMatFilter) := (ΩOK_cons cong_l5Direction Tryd.call59 (ΩOK_cons cong_sFracTimes Tryd.call37 (ΩOK_cons cong_l5Four Tryd.call18 ΩOK_nil)))
theorem con_sMatFilter : ConOK Tryd.prog glb 49 sg_sMatFilter F_sMatFilter.spec := conOK_tree om_sMatFilter mixed Tryd.func49 (by kernel_rfl) run_sMatFilter

def sg_pickC : Sig := { args := [.s (.p (.own 0) 0), .s (.e (.var 0))], pre := [⟨[.e (.var 1), .e (.var 2)], 63⟩], tin := [.int .i64, .sl, .int .i64], gin := [], res := .c (.s (.e (.var 0))), post := [⟨[.e (.var 1), .e (.var 2)], 63⟩], tout := [.int .i64, .sl, .int .i64], gout := [] }
theorem con_pickC {cb : CodeB} (hk : CodeOk cb) (hG : Known cb (glb ++ cb.tail)) : ConOK Tryd.prog (glb ++ cb.tail) 46 sg_pickC (G_pick cb).spec := conOK_ghost (t := 63) hk hG con_pick.more (ghost_pick hk)


def sg_openC : Sig := { args := [.s (.e (.var 0))], pre := [], tin := [.sl], gin := [], res := .c (.s (.p (.own 0) 0)), post := [⟨[.e (.var 0), .e (.var 1)], 63⟩], tout := [.sl, .int .i64], gout := [] }
set_option maxHeartbeats 800000 in
set_option maxRecDepth 1000000 in
theorem open_short (a : Option Addr) (len cap : Nat) (w : World) (hl : len ≤ 2000) :
    Calls Tryd.prog 30 #[.slice a len cap] w fun e w' => e = .returned (.pointer (some ⟨w.heap.size, 0, none⟩)) ∧ w' = w.alloc (.cells #[.slice a len cap, .int .i64 0] 63) := by
  go_enter Tryd.func30, Tryd.ntmps30
  go_wp2
  go_ret
  exact ⟨rfl, rfl⟩
set_option maxHeartbeats 800000 in
set_option maxRecDepth 1000000 in
theorem open_long (a : Addr) (len cap : Nat) (w : World) (hl : ¬ len ≤ 2000) (hc : len ≤ cap) (hm : len ≤ 1048576) :
    Calls Tryd.prog 30 #[.slice (some a) len cap] w fun e w' => e = .returned (.pointer (some ⟨w.heap.size, 0, none⟩)) ∧ w' = w.alloc (.cells #[.slice (some a) 2000 cap, .int .i64 0] 63) := by
  go_enter Tryd.func30, Tryd.ntmps30
  go_wp2
  go_ret
  exact ⟨rfl, rfl⟩
theorem con_openC {cb : CodeB} (_ : CodeOk cb) (_ : Known cb (glb ++ cb.tail)) : ConOK Tryd.prog (glb ++ cb.tail) 30 sg_openC (G_open cb).spec := conOK_open (t := 63) open_short open_long


def sg_l91Frac : Sig := { args := [.s (.p (.own 0) 0)], pre := [⟨[.e (.var 0), .e (.var 1)], 63⟩], tin := [.sl, .int .i64], gin := [], res := .c (.ag [.e (.var 0), .e (.var 1), .e (.var 2)]), post := [⟨[.e (.var 3), .e (.var 4)], 63⟩], tout := [.int .i64, .int .i64, .int .i64, .sl, .int .i64], gout := [] }
def cl_l91Frac : List (Nat × Sig) := [(46, sg_pickC), (57, sg_l2Low)]
theorem run_l91Frac : (fun H : List (Nat × List Sc) => run ⟨Tryd.prog, glb ++ H, cl_l91Frac⟩ [] Tryd.f50 sg_l91Frac (Tryd.f50.body.getD .skip)) = fun _ => tr_l91Frac := by kernel_rfl
theorem om_l91Frac {cb : CodeB} (hk : CodeOk cb) (hG : Known cb (glb ++ cb.tail)) : ΩOK ⟨Tryd.prog, glb ++ cb.tail, cl_l91Frac⟩ (specsOf (Fs_l91Frac cb)) := (ΩOK_cons (con_pickC hk hG) Tryd.call46 (ΩOK_cons cong_l2Low.more Tryd.call57 ΩOK_nil))
theorem con_l91Frac {cb : CodeB} (hk : CodeOk cb) (hG : Known cb (glb ++ cb.tail)) : ConOK Tryd.prog (glb ++ cb.tail) 50 sg_l91Frac (F_l91Frac cb).spec := conOK_tree (om_l91Frac hk hG) mixed Tryd.func50 (by kernel_rfl) (congrFun run_l91Frac cb.tail)

def sg_l91Direction : Sig := { args := [.s (.p (.own 0) 0)], pre := [⟨[.e (.var 0), .e (.var 1)], 63⟩], tin := [.sl, .int .i64], gin := [], res := .tu [.s (.e (.var 0)), .s (.e (.var 1))], post := [⟨[.e (.var 2), .e (.var 3)], 63⟩], tout := [.int .i64, .int .i64, .sl, .int .i64], gout := [] }
def cl_l91Direction : List (Nat × Sig) := [(46, sg_pickC)]
theorem run_l91Direction : (fun H : List (Nat × List Sc) => run ⟨Tryd.prog, glb ++ H, cl_l91Direction⟩ [] Tryd.f45 sg_l91Direction (Tryd.f45.body.getD .skip)) = fun _ => tr_l91Direction := by kernel_rfl
theorem om_l91Direction {cb : CodeB} (hk : CodeOk cb) (hG : Known cb (glb ++ cb.tail)) : ΩOK ⟨Tryd.prog, glb ++ cb.tail, cl_l91Direction⟩ (specsOf (Fs_l91Direction cb)) := (ΩOK_cons (con_pickC hk hG) Tryd.call46 ΩOK_nil)
theorem con_l91Direction {cb : CodeB} (hk : CodeOk cb) (hG : Known cb (glb ++ cb.tail)) : ConOK Tryd.prog (glb ++ cb.tail) 45 sg_l91Direction (F_l91Direction cb).spec := conOK_tree (om_l91Direction hk hG) mixed Tryd.func45 (by kernel_rfl) (congrFun run_l91Direction cb.tail)

def sg_l91Mat : Sig := { args := [.s (.p (.own 0) 0)], pre := [⟨[.e (.var 0), .e (.var 1)], 63⟩], tin := [.sl, .int .i64], gin := [], res := .c (.ag [.e (.var 0), .e (.var 1), .e (.var 2), .e (.var 3), .e (.var 4), .e (.var 5), .e (.var 6), .e (.var 7), .e (.var 8), .e (.var 9), .e (.var 10), .e (.var 11)]), post := [⟨[.e (.var 12), .e (.var 13)], 63⟩], tout := [.int .i64, .int .i64, .int .i64, .int .i64, .int .i64, .int .i64, .int .i64, .int .i64, .int .i64, .int .i64, .int .i64, .int .i64, .sl, .int .i64], gout := [] }
def cl_l91Mat : List (Nat × Sig) := [(46, sg_pickC), (45, sg_l91Direction), (47, sg_sMatRotator), (48, sg_sMatPlate), (49, sg_sMatFilter), (50, sg_l91Frac)]
theorem run_l91Mat : (fun H : List (Nat × List Sc) => run ⟨Tryd.prog, glb ++ H, cl_l91Mat⟩ [] Tryd.f31 sg_l91Mat (Tryd.f31.body.getD .skip)) = fun _ => tr_l91Mat := by kernel_rfl
theorem om_l91Mat {cb : CodeB} (hk : CodeOk cb) (hG : Known cb (glb ++ cb.tail)) : ΩOK ⟨Tryd.prog, glb ++ cb.tail, cl_l91Mat⟩ (specsOf (Fs_l91Mat cb)) := (ΩOK_cons (con_pickC hk hG) Tryd.call46 (ΩOK_cons (con_l91Direction hk hG) Tryd.call45 (ΩOK_cons con_sMatRotator.more Tryd.call47 (ΩOK_cons con_sMatPlate.more Tryd.call48 (ΩOK_cons con_sMatFilter.more Tryd.call49 (ΩOK_cons (con_l91Frac hk hG) Tryd.call50 ΩOK_nil))))))
theorem con_l91Mat {cb : CodeB} (hk : CodeOk cb) (hG : Known cb (glb ++ cb.tail)) : ConOK Tryd.prog (glb ++ cb.tail) 31 sg_l91Mat (F_l91Mat cb).spec := conOK_tree (om_l91Mat hk hG) mixed Tryd.func31 (by kernel_rfl) (congrFun run_l91Mat cb.tail)

def sg_l91Mats : Sig := { args := [.s (.e (.var 0))], pre := [], tin := [.sl], gin := [], res := .tu [.ag [.e (.var 0), .e (.var 1), .e (.var 2), .e (.var 3), .e (.var 4), .e (.var 5), .e (.var 6), .e (.var 7), .e (.var 8), .e (.var 9), .e (.var 10), .e (.var 11)], .ag [.e (.var 12), .e (.var 13), .e (.var 14), .e (.var 15), .e (.var 16), .e (.var 17), .e (.var 18), .e (.var 19), .e (.var 20), .e (.var 21), .e (.var 22), .e (.var 23)]], post := [], tout := [.int .i64, .int .i64, .int .i64, .int .i64, .int .i64, .int .i64, .int .i64, .int .i64, .int .i64, .int .i64, .int .i64, .int .i64, .int .i64, .int .i64, .int .i64, .int .i64, .int .i64, .int .i64, .int .i64, .int .i64, .int .i64, .int .i64, .int .i64, .int .i64], gout := [] }
def cl_l91Mats : List (Nat × Sig) := [(30, sg_openC), (31, sg_l91Mat)]
theorem run_l91Mats : (fun H : List (Nat × List Sc) => run ⟨Tryd.prog, glb ++ H, cl_l91Mats⟩ [] Tryd.f9 sg_l91Mats (Tryd.f9.body.getD .skip)) = fun _ => tr_l91Mats := by kernel_rfl
theorem om_l91Mats {cb : CodeB} (hk : CodeOk cb) (hG : Known cb (glb ++ cb.tail)) : ΩOK ⟨Tryd.prog, glb ++ cb.tail, cl_l91Mats⟩ (specsOf (Fs_l91Mats cb)) := (ΩOK_cons (con_openC hk hG) Tryd.call30 (ΩOK_cons (con_l91Mat hk hG) Tryd.call31 ΩOK_nil))
theorem con_l91Mats {cb : CodeB} (hk : CodeOk cb) (hG : Known cb (glb ++ cb.tail)) : ConOK Tryd.prog (glb ++ cb.tail) 9 sg_l91Mats (F_l91Mats cb).spec := conOK_tree (om_l91Mats hk hG) mixed Tryd.func9 (by kernel_rfl) (congrFun run_l91Mats cb.tail)

def sg_DrawMatTimes : Sig := { args := [.s (.e (.var 0))], pre := [], tin := [.sl], gin := [], res := .tu [.ag [.e (.var 0), .e (.var 1), .e (.var 2), .e (.var 3), .e (.var 4), .e (.var 5), .e (.var 6), .e (.var 7), .e (.var 8), .e (.var 9), .e (.var 10), .e (.var 11)], .ag [.e (.var 12), .e (.var 13), .e (.var 14), .e (.var 15), .e (.var 16), .e (.var 17), .e (.var 18), .e (.var 19), .e (.var 20), .e (.var 21), .e (.var 22), .e (.var 23)]], post := [], tout := [.int .i64, .int .i64, .int .i64, .int .i64, .int .i64, .int .i64, .int .i64, .int .i64, .int .i64, .int .i64, .int .i64, .int .i64, .int .i64, .int .i64, .int .i64, .int .i64, .int .i64, .int .i64, .int .i64, .int .i64, .int .i64, .int .i64, .int .i64, .int .i64], gout := [] }
def cl_DrawMatTimes : List (Nat × Sig) := [(9, sg_l91Mats)]
theorem run_DrawMatTimes : (fun H : List (Nat × List Sc) => run ⟨Tryd.prog, glb ++ H, cl_DrawMatTimes⟩ [] Tryd.f4 sg_DrawMatTimes (Tryd.f4.body.getD .skip)) = fun _ => tr_DrawMatTimes := by kernel_rfl
theorem om_DrawMatTimes {cb : CodeB} (hk : CodeOk cb) (hG : Known cb (glb ++ cb.tail)) : ΩOK ⟨Tryd.prog, glb ++ cb.tail, cl_DrawMatTimes⟩ (specsOf (Fs_DrawMatTimes cb)) := (ΩOK_cons (con_l91Mats hk hG) Tryd.call9 ΩOK_nil)
theorem con_DrawMatTimes {cb : CodeB} (hk : CodeOk cb) (hG : Known cb (glb ++ cb.tail)) : ConOK Tryd.prog (glb ++ cb.tail) 4 sg_DrawMatTimes (F_DrawMatTimes cb).spec := conOK_tree (om_DrawMatTimes hk hG) mixed Tryd.func4 (by kernel_rfl) (congrFun run_DrawMatTimes cb.tail)

def sg_FnTableProducts : Sig := { args := [.s (.e (.var 0))], pre := [], tin := [.sl], gin := [], res := .c (.s (.e (.var 0))), post := [], tout := [.bool], gout := [] }
def cl_FnTableProducts : List (Nat × Sig) := [(4, sg_DrawMatTimes), (5, sg_iMatTimes), (6, sg_sMatTimes), (7, sg_iTableOf), (8, sg_iTableTimes)]
theorem run_FnTableProducts : (fun H : List (Nat × List Sc) => run ⟨Tryd.prog, glb ++ H, cl_FnTableProducts⟩ [] Tryd.f3 sg_FnTableProducts (Tryd.f3.body.getD .skip)) = fun _ => tr_FnTableProducts := by kernel_rfl
theorem draw_DrawMatTimes {cb : CodeB} (hk : CodeOk cb) (hG : Known cb (glb ++ cb.tail)) : ConOK Tryd.prog (glb ++ cb.tail) 4 sg_DrawMatTimes (drawSpec dt_FnTableProducts (drawPre cb)) := (con_DrawMatTimes hk hG).draw (draw_pre (aok_DrawMatTimes hk) (by kernel_rfl))
theorem om_FnTableProducts {cb : CodeB} (hk : CodeOk cb) (hG : Known cb (glb ++ cb.tail)) : ΩOK ⟨Tryd.prog, glb ++ cb.tail, cl_FnTableProducts⟩ (Ss_FnTableProducts cb) := ΩOK_specs (draw_DrawMatTimes hk hG) Tryd.call4 (ΩOK_cons cong_iMatTimes.more Tryd.call5 (ΩOK_cons cong_sMatTimes.more Tryd.call6 (ΩOK_cons cong_iTableOf.more Tryd.call7 (ΩOK_cons cong_iTableTimes.more Tryd.call8 ΩOK_nil))))
theorem con_FnTableProducts {cb : CodeB} (hk : CodeOk cb) (hG : Known cb (glb ++ cb.tail)) : ConOK Tryd.prog (glb ++ cb.tail) 3 sg_FnTableProducts (lawF cb).spec := conOK_of (om_FnTableProducts hk hG) mixed Tryd.func3 (by kernel_rfl) (congrFun run_FnTableProducts cb.tail) (fun ins K ht h => sat_FnTableProducts Tryd.prog cb ins K ht h.1 h.2)

end Go.Proofs.YtofdmonjagkgeaaDoor

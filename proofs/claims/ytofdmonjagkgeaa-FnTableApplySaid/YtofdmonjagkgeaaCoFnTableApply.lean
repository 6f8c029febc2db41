/- The contracts of the functions. -/
import Derived.Test.YtofdmonjagkgeaaChecked
import Derived.Test.YtofdmonjagkgeaaRkAFnTableApply
import Derived.WalkKit
import Derived.Laws.OwnMore
import Derived.Deep.MidRow
namespace Go.Proofs.Ytofdmonjagkgeaa
open Go Go.Sx Go.RowKit
set_option maxRecDepth 100000

def glb : List (Nat × List Sc) := []
theorem mixed : Try.prog.follows .mixedOrders = true := by kernel_rfl

def sg_size : Sig := { args := [.s (.e (.var 0))], pre := [], tin := [.int .i64], gin := [], res := .c (.s (.e (.var 0))), post := [], tout := [.int .i64], gout := [] }
def cl_size : List (Nat × Sig) := []
theorem run_size : run ⟨Try.prog, glb, cl_size⟩ [] Try.f62 sg_size (Try.f62.body.getD .skip) = tr_size := by kernel_rfl
theorem om_size : ΩOK ⟨Try.prog, glb, cl_size⟩ (specsOf Fs_size) := ΩOK_nil
theorem con_size : ConOK Try.prog glb 62 sg_size F_size.spec := conOK_tree om_size mixed Try.func62 (by kernel_rfl) run_size

def sg_within : Sig := { args := [.s (.e (.var 0)), .s (.e (.var 1)), .s (.e (.var 2))], pre := [], tin := [.int .i64, .int .i64, .int .i64], gin := [], res := .c (.s (.e (.var 0))), post := [], tout := [.bool], gout := [] }
def cl_within : List (Nat × Sig) := []
theorem run_within : run ⟨Try.prog, glb, cl_within⟩ [] Try.f60 sg_within (Try.f60.body.getD .skip) = tr_within := by kernel_rfl
theorem om_within : ΩOK ⟨Try.prog, glb, cl_within⟩ (specsOf Fs_within) := ΩOK_nil
theorem con_within : ConOK Try.prog glb 60 sg_within F_within.spec := conOK_tree om_within mixed Try.func60 (by kernel_rfl) run_within
theorem cong_within : ConOK Try.prog glb 60 sg_within G_within.spec := con_within.as as_within

def sg_l6In : Sig := { args := [.s (.e (.var 0)), .s (.e (.var 1)), .s (.e (.var 2))], pre := [], tin := [.int .i64, .int .i64, .int .i64], gin := [], res := .c (.s (.e (.var 0))), post := [], tout := [.bool], gout := [] }
def cl_l6In : List (Nat × Sig) := []
theorem run_l6In : run ⟨Try.prog, glb, cl_l6In⟩ [] Try.f56 sg_l6In (Try.f56.body.getD .skip) = tr_l6In := by kernel_rfl
theorem om_l6In : ΩOK ⟨Try.prog, glb, cl_l6In⟩ (specsOf Fs_l6In) := ΩOK_nil
theorem con_l6In : ConOK Try.prog glb 56 sg_l6In F_l6In.spec := conOK_tree om_l6In mixed Try.func56 (by kernel_rfl) run_l6In
theorem cong_l6In : ConOK Try.prog glb 56 sg_l6In G_l6In.spec := con_l6In.as as_l6In

def sg_l2In : Sig := { args := [.s (.e (.var 0))], pre := [], tin := [.int .i64], gin := [], res := .c (.s (.e (.var 0))), post := [], tout := [.bool], gout := [] }
def cl_l2In : List (Nat × Sig) := [(56, sg_l6In)]
theorem run_l2In : run ⟨Try.prog, glb, cl_l2In⟩ [] Try.f55 sg_l2In (Try.f55.body.getD .skip) = tr_l2In := by kernel_rfl
theorem om_l2In : ΩOK ⟨Try.prog, glb, cl_l2In⟩ (specsOf Fs_l2In) := (ΩOK_cons cong_l6In Try.call56 ΩOK_nil)
theorem con_l2In : ConOK Try.prog glb 55 sg_l2In F_l2In.spec := conOK_tree om_l2In mixed Try.func55 (by kernel_rfl) run_l2In
theorem cong_l2In : ConOK Try.prog glb 55 sg_l2In G_l2In.spec := con_l2In.as as_l2In

def sg_divisor : Sig := { args := [.s (.e (.var 0)), .s (.e (.var 1))], pre := [], tin := [.int .i64, .int .i64], gin := [], res := .c (.s (.e (.var 0))), post := [], tout := [.int .i64], gout := [] }
def cl_divisor : List (Nat × Sig) := []
theorem run_divisor : run ⟨Try.prog, glb, cl_divisor⟩ [(0, ⟨[(0, .int .i64), (1, .int .i64)], []⟩)] Try.f61 sg_divisor (Try.f61.body.getD .skip) = tr_divisor := by kernel_rfl
theorem om_divisor : ΩOK ⟨Try.prog, glb, cl_divisor⟩ (specsOf Fs_divisor) := ΩOK_nil
theorem con_divisor : ConOK Try.prog glb 61 sg_divisor F_divisor.spec := conOK_of om_divisor mixed Try.func61 (by kernel_rfl) run_divisor (fun ins K ht h => sat_divisor Try.prog ins K ht h.1 h.2)

def sg_l2Gcd : Sig := { args := [.s (.e (.var 0)), .s (.e (.var 1))], pre := [], tin := [.int .i64, .int .i64], gin := [], res := .c (.s (.e (.var 0))), post := [], tout := [.int .i64], gout := [] }
def cl_l2Gcd : List (Nat × Sig) := []
theorem run_l2Gcd : run ⟨Try.prog, glb, cl_l2Gcd⟩ [(0, ⟨[(0, .int .i64), (1, .int .i64)], []⟩)] Try.f57 sg_l2Gcd (Try.f57.body.getD .skip) = tr_l2Gcd := by kernel_rfl
theorem om_l2Gcd : ΩOK ⟨Try.prog, glb, cl_l2Gcd⟩ (specsOf Fs_l2Gcd) := ΩOK_nil
theorem con_l2Gcd : ConOK Try.prog glb 57 sg_l2Gcd F_l2Gcd.spec := conOK_of om_l2Gcd mixed Try.func57 (by kernel_rfl) run_l2Gcd (fun ins K ht h => sat_l2Gcd Try.prog ins K ht h.1 h.2)

def sg_lowest : Sig := { args := [.s (.e (.var 0)), .s (.e (.var 1)), .s (.e (.var 2))], pre := [], tin := [.int .i64, .int .i64, .int .i64], gin := [], res := .tu [.ag [.e (.var 0), .e (.var 1), .e (.var 2)], .s (.e (.var 3))], post := [], tout := [.int .i64, .int .i64, .int .i64, .bool], gout := [] }
def cl_lowest : List (Nat × Sig) := [(62, sg_size), (61, sg_divisor), (60, sg_within)]
theorem run_lowest : run ⟨Try.prog, glb, cl_lowest⟩ [] Try.f46 sg_lowest (Try.f46.body.getD .skip) = tr_lowest := by kernel_rfl
theorem om_lowest : ΩOK ⟨Try.prog, glb, cl_lowest⟩ (specsOf Fs_lowest) := (ΩOK_cons con_size Try.call62 (ΩOK_cons con_divisor Try.call61 (ΩOK_cons cong_within Try.call60 ΩOK_nil)))
theorem con_lowest : ConOK Try.prog glb 46 sg_lowest F_lowest.spec := conOK_tree om_lowest mixed Try.func46 (by kernel_rfl) run_lowest
theorem cong_lowest : ConOK Try.prog glb 46 sg_lowest G_lowest.spec := con_lowest.as as_lowest

def sg_sFracValid : Sig := { args := [.ag [.e (.var 0), .e (.var 1), .e (.var 2)]], pre := [], tin := [.int .i64, .int .i64, .int .i64], gin := [], res := .c (.s (.e (.var 0))), post := [], tout := [.bool], gout := [] }
def cl_sFracValid : List (Nat × Sig) := [(55, sg_l2In), (56, sg_l6In), (57, sg_l2Gcd)]
theorem run_sFracValid : run ⟨Try.prog, glb, cl_sFracValid⟩ [] Try.f39 sg_sFracValid (Try.f39.body.getD .skip) = tr_sFracValid := by kernel_rfl
theorem om_sFracValid : ΩOK ⟨Try.prog, glb, cl_sFracValid⟩ (specsOf Fs_sFracValid) := (ΩOK_cons cong_l2In Try.call55 (ΩOK_cons cong_l6In Try.call56 (ΩOK_cons con_l2Gcd Try.call57 ΩOK_nil)))
theorem con_sFracValid : ConOK Try.prog glb 39 sg_sFracValid F_sFracValid.spec := conOK_tree om_sFracValid mixed Try.func39 (by kernel_rfl) run_sFracValid
theorem cong_sFracValid : ConOK Try.prog glb 39 sg_sFracValid G_sFracValid.spec := con_sFracValid.as as_sFracValid

def sg_l2Low : Sig := { args := [.s (.e (.var 0)), .s (.e (.var 1)), .s (.e (.var 2))], pre := [], tin := [.int .i64, .int .i64, .int .i64], gin := [], res := .tu [.ag [.e (.var 0), .e (.var 1), .e (.var 2)], .s (.e (.var 3))], post := [], tout := [.int .i64, .int .i64, .int .i64, .bool], gout := [] }
def cl_l2Low : List (Nat × Sig) := [(57, sg_l2Gcd), (39, sg_sFracValid)]
theorem run_l2Low : run ⟨Try.prog, glb, cl_l2Low⟩ [] Try.f58 sg_l2Low (Try.f58.body.getD .skip) = tr_l2Low := by kernel_rfl
theorem om_l2Low : ΩOK ⟨Try.prog, glb, cl_l2Low⟩ (specsOf Fs_l2Low) := (ΩOK_cons con_l2Gcd Try.call57 (ΩOK_cons cong_sFracValid Try.call39 ΩOK_nil))
theorem con_l2Low : ConOK Try.prog glb 58 sg_l2Low F_l2Low.spec := conOK_tree om_l2Low mixed Try.func58 (by kernel_rfl) run_l2Low
theorem cong_l2Low : ConOK Try.prog glb 58 sg_l2Low G_l2Low.spec := con_l2Low.as as_l2Low

def sg_sFracMake : Sig := { args := [.s (.e (.var 0)), .s (.e (.var 1)), .s (.e (.var 2))], pre := [], tin := [.int .i64, .int .i64, .int .i64], gin := [], res := .tu [.ag [.e (.var 0), .e (.var 1), .e (.var 2)], .s (.e (.var 3))], post := [], tout := [.int .i64, .int .i64, .int .i64, .bool], gout := [] }
def cl_sFracMake : List (Nat × Sig) := [(56, sg_l6In), (58, sg_l2Low)]
theorem run_sFracMake : run ⟨Try.prog, glb, cl_sFracMake⟩ [] Try.f85 sg_sFracMake (Try.f85.body.getD .skip) = tr_sFracMake := by kernel_rfl
theorem om_sFracMake : ΩOK ⟨Try.prog, glb, cl_sFracMake⟩ (specsOf Fs_sFracMake) := (ΩOK_cons cong_l6In Try.call56 (ΩOK_cons cong_l2Low Try.call58 ΩOK_nil))
theorem con_sFracMake : ConOK Try.prog glb 85 sg_sFracMake F_sFracMake.spec := conOK_tree om_sFracMake mixed Try.func85 (by kernel_rfl) run_sFracMake
theorem cong_sFracMake : ConOK Try.prog glb 85 sg_sFracMake G_sFracMake.spec := con_sFracMake.as as_sFracMake

def sg_l5Direction : Sig := { args := [.s (.e (.var 0)), .s (.e (.var 1))], pre := [], tin := [.int .i64, .int .i64], gin := [], res := .tu [.ag [.e (.var 0), .e (.var 1), .e (.var 2)], .ag [.e (.var 3), .e (.var 4), .e (.var 5)], .s (.e (.var 6))], post := [], tout := [.int .i64, .int .i64, .int .i64, .int .i64, .int .i64, .int .i64, .bool], gout := [] }
def cl_l5Direction : List (Nat × Sig) := [(56, sg_l6In), (85, sg_sFracMake)]
theorem run_l5Direction : run ⟨Try.prog, glb, cl_l5Direction⟩ [] Try.f79 sg_l5Direction (Try.f79.body.getD .skip) = tr_l5Direction := by kernel_rfl
theorem om_l5Direction : ΩOK ⟨Try.prog, glb, cl_l5Direction⟩ (specsOf Fs_l5Direction) := (ΩOK_cons cong_l6In Try.call56 (ΩOK_cons cong_sFracMake Try.call85 ΩOK_nil))
theorem con_l5Direction : ConOK Try.prog glb 79 sg_l5Direction F_l5Direction.spec := conOK_tree om_l5Direction mixed Try.func79 (by kernel_rfl) run_l5Direction
theorem cong_l5Direction : ConOK Try.prog glb 79 sg_l5Direction G_l5Direction.spec := con_l5Direction.as as_l5Direction

def sg_iFracValid : Sig := { args := [.ag [.e (.var 0), .e (.var 1), .e (.var 2)]], pre := [], tin := [.int .i64, .int .i64, .int .i64], gin := [], res := .c (.s (.e (.var 0))), post := [], tout := [.bool], gout := [] }
def cl_iFracValid : List (Nat × Sig) := [(60, sg_within), (61, sg_divisor), (62, sg_size)]
theorem run_iFracValid : run ⟨Try.prog, glb, cl_iFracValid⟩ [] Try.f42 sg_iFracValid (Try.f42.body.getD .skip) = tr_iFracValid := by kernel_rfl
theorem om_iFracValid : ΩOK ⟨Try.prog, glb, cl_iFracValid⟩ (specsOf Fs_iFracValid) := (ΩOK_cons cong_within Try.call60 (ΩOK_cons con_divisor Try.call61 (ΩOK_cons con_size Try.call62 ΩOK_nil)))
theorem con_iFracValid : ConOK Try.prog glb 42 sg_iFracValid F_iFracValid.spec := conOK_tree om_iFracValid mixed Try.func42 (by kernel_rfl) run_iFracValid
theorem cong_iFracValid : ConOK Try.prog glb 42 sg_iFracValid G_iFracValid.spec := con_iFracValid.as as_iFracValid

def sg_realOk : Sig := { args := [.ag [.e (.var 0), .e (.var 1), .e (.var 2)]], pre := [], tin := [.int .i64, .int .i64, .int .i64], gin := [], res := .c (.s (.e (.var 0))), post := [], tout := [.bool], gout := [] }
def cl_realOk : List (Nat × Sig) := [(42, sg_iFracValid)]
theorem run_realOk : run ⟨Try.prog, glb, cl_realOk⟩ [] Try.f35 sg_realOk (Try.f35.body.getD .skip) = tr_realOk := by kernel_rfl
theorem om_realOk : ΩOK ⟨Try.prog, glb, cl_realOk⟩ (specsOf Fs_realOk) := (ΩOK_cons cong_iFracValid Try.call42 ΩOK_nil)
theorem con_realOk : ConOK Try.prog glb 35 sg_realOk F_realOk.spec := conOK_tree om_realOk mixed Try.func35 (by kernel_rfl) run_realOk
theorem cong_realOk : ConOK Try.prog glb 35 sg_realOk G_realOk.spec := con_realOk.as as_realOk

def sg_iFracAdd : Sig := { args := [.ag [.e (.var 0), .e (.var 1), .e (.var 2)], .ag [.e (.var 3), .e (.var 4), .e (.var 5)]], pre := [], tin := [.int .i64, .int .i64, .int .i64, .int .i64, .int .i64, .int .i64], gin := [], res := .tu [.ag [.e (.var 0), .e (.var 1), .e (.var 2)], .s (.e (.var 3))], post := [], tout := [.int .i64, .int .i64, .int .i64, .bool], gout := [] }
def cl_iFracAdd : List (Nat × Sig) := [(42, sg_iFracValid), (46, sg_lowest)]
theorem run_iFracAdd : run ⟨Try.prog, glb, cl_iFracAdd⟩ [] Try.f38 sg_iFracAdd (Try.f38.body.getD .skip) = tr_iFracAdd := by kernel_rfl
theorem om_iFracAdd : ΩOK ⟨Try.prog, glb, cl_iFracAdd⟩ (specsOf Fs_iFracAdd) := (ΩOK_cons cong_iFracValid Try.call42 (ΩOK_cons cong_lowest Try.call46 ΩOK_nil))
theorem con_iFracAdd : ConOK Try.prog glb 38 sg_iFracAdd F_iFracAdd.spec := conOK_tree om_iFracAdd mixed Try.func38 (by kernel_rfl) run_iFracAdd
theorem cong_iFracAdd : ConOK Try.prog glb 38 sg_iFracAdd G_iFracAdd.spec := con_iFracAdd.as as_iFracAdd

def sg_iFracTimes : Sig := { args := [.ag [.e (.var 0), .e (.var 1), .e (.var 2)], .ag [.e (.var 3), .e (.var 4), .e (.var 5)]], pre := [], tin := [.int .i64, .int .i64, .int .i64, .int .i64, .int .i64, .int .i64], gin := [], res := .tu [.ag [.e (.var 0), .e (.var 1), .e (.var 2)], .s (.e (.var 3))], post := [], tout := [.int .i64, .int .i64, .int .i64, .bool], gout := [] }
def cl_iFracTimes : List (Nat × Sig) := [(42, sg_iFracValid), (46, sg_lowest)]
theorem run_iFracTimes : run ⟨Try.prog, glb, cl_iFracTimes⟩ [] Try.f37 sg_iFracTimes (Try.f37.body.getD .skip) = tr_iFracTimes := by kernel_rfl
theorem om_iFracTimes : ΩOK ⟨Try.prog, glb, cl_iFracTimes⟩ (specsOf Fs_iFracTimes) := (ΩOK_cons cong_iFracValid Try.call42 (ΩOK_cons cong_lowest Try.call46 ΩOK_nil))
theorem con_iFracTimes : ConOK Try.prog glb 37 sg_iFracTimes F_iFracTimes.spec := conOK_tree om_iFracTimes mixed Try.func37 (by kernel_rfl) run_iFracTimes
theorem cong_iFracTimes : ConOK Try.prog glb 37 sg_iFracTimes G_iFracTimes.spec := con_iFracTimes.as as_iFracTimes

def sg_l2Sum : Sig := { args := [.ag [.e (.var 0), .e (.var 1), .e (.var 2)], .s (.e (.var 3)), .ag [.e (.var 4), .e (.var 5), .e (.var 6)]], pre := [], tin := [.int .i64, .int .i64, .int .i64, .int .i64, .int .i64, .int .i64, .int .i64], gin := [], res := .tu [.ag [.e (.var 0), .e (.var 1), .e (.var 2)], .s (.e (.var 3))], post := [], tout := [.int .i64, .int .i64, .int .i64, .bool], gout := [] }
def cl_l2Sum : List (Nat × Sig) := [(39, sg_sFracValid), (58, sg_l2Low)]
theorem run_l2Sum : run ⟨Try.prog, glb, cl_l2Sum⟩ [] Try.f59 sg_l2Sum (Try.f59.body.getD .skip) = tr_l2Sum := by kernel_rfl
theorem om_l2Sum : ΩOK ⟨Try.prog, glb, cl_l2Sum⟩ (specsOf Fs_l2Sum) := (ΩOK_cons cong_sFracValid Try.call39 (ΩOK_cons cong_l2Low Try.call58 ΩOK_nil))
theorem con_l2Sum : ConOK Try.prog glb 59 sg_l2Sum F_l2Sum.spec := conOK_tree om_l2Sum mixed Try.func59 (by kernel_rfl) run_l2Sum
theorem cong_l2Sum : ConOK Try.prog glb 59 sg_l2Sum G_l2Sum.spec := con_l2Sum.as as_l2Sum

def sg_sFracAdd : Sig := { args := [.ag [.e (.var 0), .e (.var 1), .e (.var 2)], .ag [.e (.var 3), .e (.var 4), .e (.var 5)]], pre := [], tin := [.int .i64, .int .i64, .int .i64, .int .i64, .int .i64, .int .i64], gin := [], res := .tu [.ag [.e (.var 0), .e (.var 1), .e (.var 2)], .s (.e (.var 3))], post := [], tout := [.int .i64, .int .i64, .int .i64, .bool], gout := [] }
def cl_sFracAdd : List (Nat × Sig) := [(59, sg_l2Sum)]
theorem run_sFracAdd : run ⟨Try.prog, glb, cl_sFracAdd⟩ [] Try.f74 sg_sFracAdd (Try.f74.body.getD .skip) = tr_sFracAdd := by kernel_rfl
theorem om_sFracAdd : ΩOK ⟨Try.prog, glb, cl_sFracAdd⟩ (specsOf Fs_sFracAdd) := (ΩOK_cons cong_l2Sum Try.call59 ΩOK_nil)
theorem con_sFracAdd : ConOK Try.prog glb 74 sg_sFracAdd F_sFracAdd.spec := conOK_tree om_sFracAdd mixed Try.func74 (by kernel_rfl) run_sFracAdd
theorem cong_sFracAdd : ConOK Try.prog glb 74 sg_sFracAdd G_sFracAdd.spec := con_sFracAdd.as as_sFracAdd

def sg_sFracTimes : Sig := { args := [.ag [.e (.var 0), .e (.var 1), .e (.var 2)], .ag [.e (.var 3), .e (.var 4), .e (.var 5)]], pre := [], tin := [.int .i64, .int .i64, .int .i64, .int .i64, .int .i64, .int .i64], gin := [], res := .tu [.ag [.e (.var 0), .e (.var 1), .e (.var 2)], .s (.e (.var 3))], post := [], tout := [.int .i64, .int .i64, .int .i64, .bool], gout := [] }
def cl_sFracTimes : List (Nat × Sig) := [(39, sg_sFracValid), (58, sg_l2Low)]
theorem run_sFracTimes : run ⟨Try.prog, glb, cl_sFracTimes⟩ [] Try.f40 sg_sFracTimes (Try.f40.body.getD .skip) = tr_sFracTimes := by kernel_rfl
theorem om_sFracTimes : ΩOK ⟨Try.prog, glb, cl_sFracTimes⟩ (specsOf Fs_sFracTimes) := (ΩOK_cons cong_sFracValid Try.call39 (ΩOK_cons cong_l2Low Try.call58 ΩOK_nil))
theorem con_sFracTimes : ConOK Try.prog glb 40 sg_sFracTimes F_sFracTimes.spec := conOK_tree om_sFracTimes mixed Try.func40 (by kernel_rfl) run_sFracTimes
theorem cong_sFracTimes : ConOK Try.prog glb 40 sg_sFracTimes G_sFracTimes.spec := con_sFracTimes.as as_sFracTimes

def sg_keep : Sig := { args := [.s (.p (.own 0) 0), .ag [.e (.var 0), .e (.var 1), .e (.var 2)], .s (.e (.var 3))], pre := [⟨[.e (.var 4)], 46⟩], tin := [.int .i64, .int .i64, .int .i64, .bool, .bool], gin := [], res := .c (.ag [.e (.var 0), .e (.var 1), .e (.var 2)]), post := [⟨[.e (.var 3)], 46⟩], tout := [.int .i64, .int .i64, .int .i64, .bool], gout := [] }
def cl_keep : List (Nat × Sig) := []
theorem run_keep : run ⟨Try.prog, glb, cl_keep⟩ [] Try.f36 sg_keep (Try.f36.body.getD .skip) = tr_keep := by kernel_rfl
theorem om_keep : ΩOK ⟨Try.prog, glb, cl_keep⟩ (specsOf Fs_keep) := ΩOK_nil
theorem con_keep : ConOK Try.prog glb 36 sg_keep F_keep.spec := conOK_tree om_keep mixed Try.func36 (by kernel_rfl) run_keep

def sg_add : Sig := { args := [.s (.p (.own 0) 0), .ag [.e (.var 0), .e (.var 1), .e (.var 2)], .ag [.e (.var 3), .e (.var 4), .e (.var 5)]], pre := [⟨[.e (.var 6)], 46⟩], tin := [.int .i64, .int .i64, .int .i64, .int .i64, .int .i64, .int .i64, .bool], gin := [], res := .c (.ag [.e (.var 0), .e (.var 1), .e (.var 2)]), post := [⟨[.e (.var 3)], 46⟩], tout := [.int .i64, .int .i64, .int .i64, .bool], gout := [] }
def cl_add : List (Nat × Sig) := [(38, sg_iFracAdd), (36, sg_keep)]
theorem run_add : run ⟨Try.prog, glb, cl_add⟩ [] Try.f17 sg_add (Try.f17.body.getD .skip) = tr_add := by kernel_rfl
theorem om_add : ΩOK ⟨Try.prog, glb, cl_add⟩ (specsOf Fs_add) := (ΩOK_cons cong_iFracAdd Try.call38 (ΩOK_cons con_keep Try.call36 ΩOK_nil))
theorem con_add : ConOK Try.prog glb 17 sg_add F_add.spec := conOK_tree om_add mixed Try.func17 (by kernel_rfl) run_add
theorem cong_add : ConOK Try.prog glb 17 sg_add G_add.spec := con_add.as as_add

def sg_times : Sig := { args := [.s (.p (.own 0) 0), .ag [.e (.var 0), .e (.var 1), .e (.var 2)], .ag [.e (.var 3), .e (.var 4), .e (.var 5)]], pre := [⟨[.e (.var 6)], 46⟩], tin := [.int .i64, .int .i64, .int .i64, .int .i64, .int .i64, .int .i64, .bool], gin := [], res := .c (.ag [.e (.var 0), .e (.var 1), .e (.var 2)]), post := [⟨[.e (.var 3)], 46⟩], tout := [.int .i64, .int .i64, .int .i64, .bool], gout := [] }
def cl_times : List (Nat × Sig) := [(37, sg_iFracTimes), (36, sg_keep)]
theorem run_times : run ⟨Try.prog, glb, cl_times⟩ [] Try.f16 sg_times (Try.f16.body.getD .skip) = tr_times := by kernel_rfl
theorem om_times : ΩOK ⟨Try.prog, glb, cl_times⟩ (specsOf Fs_times) := (ΩOK_cons cong_iFracTimes Try.call37 (ΩOK_cons con_keep Try.call36 ΩOK_nil))
theorem con_times : ConOK Try.prog glb 16 sg_times F_times.spec := conOK_tree om_times mixed Try.func16 (by kernel_rfl) run_times
theorem cong_times : ConOK Try.prog glb 16 sg_times G_times.spec := con_times.as as_times

def sg_need : Sig := { args := [.s (.p (.own 0) 0), .s (.e (.var 0))], pre := [⟨[.e (.var 1)], 46⟩], tin := [.bool, .bool], gin := [], res := .c (.s (.p (.own 0) 0)), post := [⟨[.e (.var 0)], 46⟩], tout := [.bool], gout := [] }
def cl_need : List (Nat × Sig) := []
theorem run_need : run ⟨Try.prog, glb, cl_need⟩ [] Try.f14 sg_need (Try.f14.body.getD .skip) = tr_need := by kernel_rfl
theorem om_need : ΩOK ⟨Try.prog, glb, cl_need⟩ (specsOf Fs_need) := ΩOK_nil
theorem con_need : ConOK Try.prog glb 14 sg_need F_need.spec := conOK_tree om_need mixed Try.func14 (by kernel_rfl) run_need
theorem cong_need : ConOK Try.prog glb 14 sg_need G_need.spec := con_need.as as_need

def sg_l6tAdd : Sig := { args := [.s (.p (.own 0) 0), .ag [.e (.var 0), .e (.var 1), .e (.var 2)], .s (.e (.var 3)), .ag [.e (.var 4), .e (.var 5), .e (.var 6)]], pre := [⟨[.e (.var 7)], 53⟩], tin := [.int .i64, .int .i64, .int .i64, .int .i64, .int .i64, .int .i64, .int .i64, .bool], gin := [], res := .c (.ag [.e (.var 0), .e (.var 1), .e (.var 2)]), post := [⟨[.e (.var 3)], 53⟩], tout := [.int .i64, .int .i64, .int .i64, .bool], gout := [] }
def cl_l6tAdd : List (Nat × Sig) := [(59, sg_l2Sum)]
theorem run_l6tAdd : run ⟨Try.prog, glb, cl_l6tAdd⟩ [] Try.f41 sg_l6tAdd (Try.f41.body.getD .skip) = tr_l6tAdd := by kernel_rfl
theorem om_l6tAdd : ΩOK ⟨Try.prog, glb, cl_l6tAdd⟩ (specsOf Fs_l6tAdd) := (ΩOK_cons cong_l2Sum Try.call59 ΩOK_nil)
theorem con_l6tAdd : ConOK Try.prog glb 41 sg_l6tAdd F_l6tAdd.spec := conOK_tree om_l6tAdd mixed Try.func41 (by kernel_rfl) run_l6tAdd
theorem cong_l6tAdd : ConOK Try.prog glb 41 sg_l6tAdd G_l6tAdd.spec := con_l6tAdd.as as_l6tAdd

def sg_iTableValid : Sig := { args := [.ag [.e (.var 0), .e (.var 1), .e (.var 2), .e (.var 3), .e (.var 4), .e (.var 5), .e (.var 6), .e (.var 7), .e (.var 8), .e (.var 9), .e (.var 10), .e (.var 11), .e (.var 12), .e (.var 13), .e (.var 14), .e (.var 15), .e (.var 16), .e (.var 17), .e (.var 18), .e (.var 19), .e (.var 20), .e (.var 21), .e (.var 22), .e (.var 23), .e (.var 24), .e (.var 25), .e (.var 26), .e (.var 27), .e (.var 28), .e (.var 29), .e (.var 30), .e (.var 31), .e (.var 32), .e (.var 33), .e (.var 34), .e (.var 35), .e (.var 36), .e (.var 37), .e (.var 38), .e (.var 39), .e (.var 40), .e (.var 41), .e (.var 42), .e (.var 43), .e (.var 44), .e (.var 45), .e (.var 46), .e (.var 47)]], pre := [], tin := [.int .i64, .int .i64, .int .i64, .int .i64, .int .i64, .int .i64, .int .i64, .int .i64, .int .i64, .int .i64, .int .i64, .int .i64, .int .i64, .int .i64, .int .i64, .int .i64, .int .i64, .int .i64, .int .i64, .int .i64, .int .i64, .int .i64, .int .i64, .int .i64, .int .i64, .int .i64, .int .i64, .int .i64, .int .i64, .int .i64, .int .i64, .int .i64, .int .i64, .int .i64, .int .i64, .int .i64, .int .i64, .int .i64, .int .i64, .int .i64, .int .i64, .int .i64, .int .i64, .int .i64, .int .i64, .int .i64, .int .i64, .int .i64], gin := [], res := .c (.s (.e (.var 0))), post := [], tout := [.bool], gout := [] }
def cl_iTableValid : List (Nat × Sig) := [(35, sg_realOk)]
theorem run_iTableValid : run ⟨Try.prog, glb, cl_iTableValid⟩ [] Try.f15 sg_iTableValid (Try.f15.body.getD .skip) = tr_iTableValid := by kernel_rfl
theorem om_iTableValid : ΩOK ⟨Try.prog, glb, cl_iTableValid⟩ (specsOf Fs_iTableValid) := (ΩOK_cons cong_realOk Try.call35 ΩOK_nil)
theorem con_iTableValid : ConOK Try.prog glb 15 sg_iTableValid F_iTableValid.spec := conOK_tree om_iTableValid mixed Try.func15 (by kernel_rfl) run_iTableValid
theorem cong_iTableValid : ConOK Try.prog glb 15 sg_iTableValid G_iTableValid.spec := con_iTableValid.as as_iTableValid

def sg_sTableValid : Sig := { args := [.ag [.e (.var 0), .e (.var 1), .e (.var 2), .e (.var 3), .e (.var 4), .e (.var 5), .e (.var 6), .e (.var 7), .e (.var 8), .e (.var 9), .e (.var 10), .e (.var 11), .e (.var 12), .e (.var 13), .e (.var 14), .e (.var 15), .e (.var 16), .e (.var 17), .e (.var 18), .e (.var 19), .e (.var 20), .e (.var 21), .e (.var 22), .e (.var 23), .e (.var 24), .e (.var 25), .e (.var 26), .e (.var 27), .e (.var 28), .e (.var 29), .e (.var 30), .e (.var 31), .e (.var 32), .e (.var 33), .e (.var 34), .e (.var 35), .e (.var 36), .e (.var 37), .e (.var 38), .e (.var 39), .e (.var 40), .e (.var 41), .e (.var 42), .e (.var 43), .e (.var 44), .e (.var 45), .e (.var 46), .e (.var 47)]], pre := [], tin := [.int .i64, .int .i64, .int .i64, .int .i64, .int .i64, .int .i64, .int .i64, .int .i64, .int .i64, .int .i64, .int .i64, .int .i64, .int .i64, .int .i64, .int .i64, .int .i64, .int .i64, .int .i64, .int .i64, .int .i64, .int .i64, .int .i64, .int .i64, .int .i64, .int .i64, .int .i64, .int .i64, .int .i64, .int .i64, .int .i64, .int .i64, .int .i64, .int .i64, .int .i64, .int .i64, .int .i64, .int .i64, .int .i64, .int .i64, .int .i64, .int .i64, .int .i64, .int .i64, .int .i64, .int .i64, .int .i64, .int .i64, .int .i64], gin := [], res := .c (.s (.e (.var 0))), post := [], tout := [.bool], gout := [] }
def cl_sTableValid : List (Nat × Sig) := [(39, sg_sFracValid)]
theorem run_sTableValid : run ⟨Try.prog, glb, cl_sTableValid⟩ [] Try.f19 sg_sTableValid (Try.f19.body.getD .skip) = tr_sTableValid := by kernel_rfl
theorem om_sTableValid : ΩOK ⟨Try.prog, glb, cl_sTableValid⟩ (specsOf Fs_sTableValid) := (ΩOK_cons cong_sFracValid Try.call39 ΩOK_nil)
theorem con_sTableValid : ConOK Try.prog glb 19 sg_sTableValid F_sTableValid.spec := conOK_tree om_sTableValid mixed Try.func19 (by kernel_rfl) run_sTableValid
theorem cong_sTableValid : ConOK Try.prog glb 19 sg_sTableValid G_sTableValid.spec := con_sTableValid.as as_sTableValid

def sg_l6tOf0 : Sig := { args := [.ag [.e (.var 0), .e (.var 1), .e (.var 2), .e (.var 3), .e (.var 4), .e (.var 5), .e (.var 6), .e (.var 7), .e (.var 8), .e (.var 9), .e (.var 10), .e (.var 11), .e (.var 12), .e (.var 13), .e (.var 14), .e (.var 15), .e (.var 16), .e (.var 17), .e (.var 18), .e (.var 19), .e (.var 20), .e (.var 21), .e (.var 22), .e (.var 23), .e (.var 24), .e (.var 25), .e (.var 26), .e (.var 27), .e (.var 28), .e (.var 29), .e (.var 30), .e (.var 31), .e (.var 32), .e (.var 33), .e (.var 34), .e (.var 35), .e (.var 36), .e (.var 37), .e (.var 38), .e (.var 39), .e (.var 40), .e (.var 41), .e (.var 42), .e (.var 43), .e (.var 44), .e (.var 45), .e (.var 46), .e (.var 47)], .s (.e (.int .i64 (0)))], pre := [], tin := [.int .i64, .int .i64, .int .i64, .int .i64, .int .i64, .int .i64, .int .i64, .int .i64, .int .i64, .int .i64, .int .i64, .int .i64, .int .i64, .int .i64, .int .i64, .int .i64, .int .i64, .int .i64, .int .i64, .int .i64, .int .i64, .int .i64, .int .i64, .int .i64, .int .i64, .int .i64, .int .i64, .int .i64, .int .i64, .int .i64, .int .i64, .int .i64, .int .i64, .int .i64, .int .i64, .int .i64, .int .i64, .int .i64, .int .i64, .int .i64, .int .i64, .int .i64, .int .i64, .int .i64, .int .i64, .int .i64, .int .i64, .int .i64], gin := [], res := .c (.ag [.e (.var 0), .e (.var 1), .e (.var 2), .e (.var 3), .e (.var 4), .e (.var 5), .e (.var 6), .e (.var 7), .e (.var 8), .e (.var 9), .e (.var 10), .e (.var 11)]), post := [], tout := [.int .i64, .int .i64, .int .i64, .int .i64, .int .i64, .int .i64, .int .i64, .int .i64, .int .i64, .int .i64, .int .i64, .int .i64], gout := [] }
def cl_l6tOf0 : List (Nat × Sig) := []
theorem run_l6tOf0 : run ⟨Try.prog, glb, cl_l6tOf0⟩ [] Try.f21 sg_l6tOf0 (Try.f21.body.getD .skip) = tr_l6tOf0 := by kernel_rfl
theorem om_l6tOf0 : ΩOK ⟨Try.prog, glb, cl_l6tOf0⟩ (specsOf Fs_l6tOf0) := ΩOK_nil
theorem con_l6tOf0 : ConOK Try.prog glb 21 sg_l6tOf0 F_l6tOf0.spec := conOK_tree om_l6tOf0 mixed Try.func21 (by kernel_rfl) run_l6tOf0

def sg_l6tOf1 : Sig := { args := [.ag [.e (.var 0), .e (.var 1), .e (.var 2), .e (.var 3), .e (.var 4), .e (.var 5), .e (.var 6), .e (.var 7), .e (.var 8), .e (.var 9), .e (.var 10), .e (.var 11), .e (.var 12), .e (.var 13), .e (.var 14), .e (.var 15), .e (.var 16), .e (.var 17), .e (.var 18), .e (.var 19), .e (.var 20), .e (.var 21), .e (.var 22), .e (.var 23), .e (.var 24), .e (.var 25), .e (.var 26), .e (.var 27), .e (.var 28), .e (.var 29), .e (.var 30), .e (.var 31), .e (.var 32), .e (.var 33), .e (.var 34), .e (.var 35), .e (.var 36), .e (.var 37), .e (.var 38), .e (.var 39), .e (.var 40), .e (.var 41), .e (.var 42), .e (.var 43), .e (.var 44), .e (.var 45), .e (.var 46), .e (.var 47)], .s (.e (.int .i64 (1)))], pre := [], tin := [.int .i64, .int .i64, .int .i64, .int .i64, .int .i64, .int .i64, .int .i64, .int .i64, .int .i64, .int .i64, .int .i64, .int .i64, .int .i64, .int .i64, .int .i64, .int .i64, .int .i64, .int .i64, .int .i64, .int .i64, .int .i64, .int .i64, .int .i64, .int .i64, .int .i64, .int .i64, .int .i64, .int .i64, .int .i64, .int .i64, .int .i64, .int .i64, .int .i64, .int .i64, .int .i64, .int .i64, .int .i64, .int .i64, .int .i64, .int .i64, .int .i64, .int .i64, .int .i64, .int .i64, .int .i64, .int .i64, .int .i64, .int .i64], gin := [], res := .c (.ag [.e (.var 0), .e (.var 1), .e (.var 2), .e (.var 3), .e (.var 4), .e (.var 5), .e (.var 6), .e (.var 7), .e (.var 8), .e (.var 9), .e (.var 10), .e (.var 11)]), post := [], tout := [.int .i64, .int .i64, .int .i64, .int .i64, .int .i64, .int .i64, .int .i64, .int .i64, .int .i64, .int .i64, .int .i64, .int .i64], gout := [] }
def cl_l6tOf1 : List (Nat × Sig) := []
theorem run_l6tOf1 : run ⟨Try.prog, glb, cl_l6tOf1⟩ [] Try.f21 sg_l6tOf1 (Try.f21.body.getD .skip) = tr_l6tOf1 := by kernel_rfl
theorem om_l6tOf1 : ΩOK ⟨Try.prog, glb, cl_l6tOf1⟩ (specsOf Fs_l6tOf1) := ΩOK_nil
theorem con_l6tOf1 : ConOK Try.prog glb 21 sg_l6tOf1 F_l6tOf1.spec := conOK_tree om_l6tOf1 mixed Try.func21 (by kernel_rfl) run_l6tOf1

def sg_l6tOf2 : Sig := { args := [.ag [.e (.var 0), .e (.var 1), .e (.var 2), .e (.var 3), .e (.var 4), .e (.var 5), .e (.var 6), .e (.var 7), .e (.var 8), .e (.var 9), .e (.var 10), .e (.var 11), .e (.var 12), .e (.var 13), .e (.var 14), .e (.var 15), .e (.var 16), .e (.var 17), .e (.var 18), .e (.var 19), .e (.var 20), .e (.var 21), .e (.var 22), .e (.var 23), .e (.var 24), .e (.var 25), .e (.var 26), .e (.var 27), .e (.var 28), .e (.var 29), .e (.var 30), .e (.var 31), .e (.var 32), .e (.var 33), .e (.var 34), .e (.var 35), .e (.var 36), .e (.var 37), .e (.var 38), .e (.var 39), .e (.var 40), .e (.var 41), .e (.var 42), .e (.var 43), .e (.var 44), .e (.var 45), .e (.var 46), .e (.var 47)], .s (.e (.int .i64 (2)))], pre := [], tin := [.int .i64, .int .i64, .int .i64, .int .i64, .int .i64, .int .i64, .int .i64, .int .i64, .int .i64, .int .i64, .int .i64, .int .i64, .int .i64, .int .i64, .int .i64, .int .i64, .int .i64, .int .i64, .int .i64, .int .i64, .int .i64, .int .i64, .int .i64, .int .i64, .int .i64, .int .i64, .int .i64, .int .i64, .int .i64, .int .i64, .int .i64, .int .i64, .int .i64, .int .i64, .int .i64, .int .i64, .int .i64, .int .i64, .int .i64, .int .i64, .int .i64, .int .i64, .int .i64, .int .i64, .int .i64, .int .i64, .int .i64, .int .i64], gin := [], res := .c (.ag [.e (.var 0), .e (.var 1), .e (.var 2), .e (.var 3), .e (.var 4), .e (.var 5), .e (.var 6), .e (.var 7), .e (.var 8), .e (.var 9), .e (.var 10), .e (.var 11)]), post := [], tout := [.int .i64, .int .i64, .int .i64, .int .i64, .int .i64, .int .i64, .int .i64, .int .i64, .int .i64, .int .i64, .int .i64, .int .i64], gout := [] }
def cl_l6tOf2 : List (Nat × Sig) := []
theorem run_l6tOf2 : run ⟨Try.prog, glb, cl_l6tOf2⟩ [] Try.f21 sg_l6tOf2 (Try.f21.body.getD .skip) = tr_l6tOf2 := by kernel_rfl
theorem om_l6tOf2 : ΩOK ⟨Try.prog, glb, cl_l6tOf2⟩ (specsOf Fs_l6tOf2) := ΩOK_nil
theorem con_l6tOf2 : ConOK Try.prog glb 21 sg_l6tOf2 F_l6tOf2.spec := conOK_tree om_l6tOf2 mixed Try.func21 (by kernel_rfl) run_l6tOf2

def sg_l6tOf3 : Sig := { args := [.ag [.e (.var 0), .e (.var 1), .e (.var 2), .e (.var 3), .e (.var 4), .e (.var 5), .e (.var 6), .e (.var 7), .e (.var 8), .e (.var 9), .e (.var 10), .e (.var 11), .e (.var 12), .e (.var 13), .e (.var 14), .e (.var 15), .e (.var 16), .e (.var 17), .e (.var 18), .e (.var 19), .e (.var 20), .e (.var 21), .e (.var 22), .e (.var 23), .e (.var 24), .e (.var 25), .e (.var 26), .e (.var 27), .e (.var 28), .e (.var 29), .e (.var 30), .e (.var 31), .e (.var 32), .e (.var 33), .e (.var 34), .e (.var 35), .e (.var 36), .e (.var 37), .e (.var 38), .e (.var 39), .e (.var 40), .e (.var 41), .e (.var 42), .e (.var 43), .e (.var 44), .e (.var 45), .e (.var 46), .e (.var 47)], .s (.e (.int .i64 (3)))], pre := [], tin := [.int .i64, .int .i64, .int .i64, .int .i64, .int .i64, .int .i64, .int .i64, .int .i64, .int .i64, .int .i64, .int .i64, .int .i64, .int .i64, .int .i64, .int .i64, .int .i64, .int .i64, .int .i64, .int .i64, .int .i64, .int .i64, .int .i64, .int .i64, .int .i64, .int .i64, .int .i64, .int .i64, .int .i64, .int .i64, .int .i64, .int .i64, .int .i64, .int .i64, .int .i64, .int .i64, .int .i64, .int .i64, .int .i64, .int .i64, .int .i64, .int .i64, .int .i64, .int .i64, .int .i64, .int .i64, .int .i64, .int .i64, .int .i64], gin := [], res := .c (.ag [.e (.var 0), .e (.var 1), .e (.var 2), .e (.var 3), .e (.var 4), .e (.var 5), .e (.var 6), .e (.var 7), .e (.var 8), .e (.var 9), .e (.var 10), .e (.var 11)]), post := [], tout := [.int .i64, .int .i64, .int .i64, .int .i64, .int .i64, .int .i64, .int .i64, .int .i64, .int .i64, .int .i64, .int .i64, .int .i64], gout := [] }
def cl_l6tOf3 : List (Nat × Sig) := []
theorem run_l6tOf3 : run ⟨Try.prog, glb, cl_l6tOf3⟩ [] Try.f21 sg_l6tOf3 (Try.f21.body.getD .skip) = tr_l6tOf3 := by kernel_rfl
theorem om_l6tOf3 : ΩOK ⟨Try.prog, glb, cl_l6tOf3⟩ (specsOf Fs_l6tOf3) := ΩOK_nil
theorem con_l6tOf3 : ConOK Try.prog glb 21 sg_l6tOf3 F_l6tOf3.spec := conOK_tree om_l6tOf3 mixed Try.func21 (by kernel_rfl) run_l6tOf3

def sg_l6tRow : Sig := { args := [.s (.p (.own 0) 0), .ag [.e (.var 0), .e (.var 1), .e (.var 2), .e (.var 3), .e (.var 4), .e (.var 5), .e (.var 6), .e (.var 7), .e (.var 8), .e (.var 9), .e (.var 10), .e (.var 11)], .ag [.e (.var 12), .e (.var 13), .e (.var 14), .e (.var 15), .e (.var 16), .e (.var 17), .e (.var 18), .e (.var 19), .e (.var 20), .e (.var 21), .e (.var 22), .e (.var 23)]], pre := [⟨[.e (.var 24)], 53⟩], tin := [.int .i64, .int .i64, .int .i64, .int .i64, .int .i64, .int .i64, .int .i64, .int .i64, .int .i64, .int .i64, .int .i64, .int .i64, .int .i64, .int .i64, .int .i64, .int .i64, .int .i64, .int .i64, .int .i64, .int .i64, .int .i64, .int .i64, .int .i64, .int .i64, .bool], gin := [], res := .c (.ag [.e (.var 0), .e (.var 1), .e (.var 2)]), post := [⟨[.e (.var 3)], 53⟩], tout := [.int .i64, .int .i64, .int .i64, .bool], gout := [] }
def cl_l6tRow : List (Nat × Sig) := [(40, sg_sFracTimes), (41, sg_l6tAdd)]
theorem run_l6tRow : run ⟨Try.prog, glb, cl_l6tRow⟩ [] Try.f20 sg_l6tRow (Try.f20.body.getD .skip) = tr_l6tRow := by kernel_rfl
theorem om_l6tRow : ΩOK ⟨Try.prog, glb, cl_l6tRow⟩ (specsOf Fs_l6tRow) := (ΩOK_cons cong_sFracTimes Try.call40 (ΩOK_cons cong_l6tAdd Try.call41 ΩOK_nil))
theorem con_l6tRow : ConOK Try.prog glb 20 sg_l6tRow F_l6tRow.spec := conOK_tree om_l6tRow mixed Try.func20 (by kernel_rfl) run_l6tRow
theorem cong_l6tRow : ConOK Try.prog glb 20 sg_l6tRow G_l6tRow.spec := con_l6tRow.as as_l6tRow

def sg_gotStokes : Sig := { args := [.s (.p (.own 0) 0), .ag [.e (.var 0), .e (.var 1), .e (.var 2), .e (.var 3), .e (.var 4), .e (.var 5), .e (.var 6), .e (.var 7), .e (.var 8), .e (.var 9), .e (.var 10), .e (.var 11)]], pre := [⟨[.e (.var 12)], 46⟩], tin := [.int .i64, .int .i64, .int .i64, .int .i64, .int .i64, .int .i64, .int .i64, .int .i64, .int .i64, .int .i64, .int .i64, .int .i64, .bool], gin := [], res := .tu [.ag [.e (.var 0), .e (.var 1), .e (.var 2), .e (.var 3), .e (.var 4), .e (.var 5), .e (.var 6), .e (.var 7), .e (.var 8), .e (.var 9), .e (.var 10), .e (.var 11)], .s (.e (.var 12))], post := [⟨[.e (.var 13)], 46⟩], tout := [.int .i64, .int .i64, .int .i64, .int .i64, .int .i64, .int .i64, .int .i64, .int .i64, .int .i64, .int .i64, .int .i64, .int .i64, .bool, .bool], gout := [] }
def cl_gotStokes : List (Nat × Sig) := []
theorem run_gotStokes : run ⟨Try.prog, glb, cl_gotStokes⟩ [] Try.f26 sg_gotStokes (Try.f26.body.getD .skip) = tr_gotStokes := by kernel_rfl
theorem om_gotStokes : ΩOK ⟨Try.prog, glb, cl_gotStokes⟩ (specsOf Fs_gotStokes) := ΩOK_nil
theorem con_gotStokes : ConOK Try.prog glb 26 sg_gotStokes F_gotStokes.spec := conOK_tree om_gotStokes mixed Try.func26 (by kernel_rfl) run_gotStokes
theorem cong_gotStokes : ConOK Try.prog glb 26 sg_gotStokes G_gotStokes.spec := con_gotStokes.as as_gotStokes

def sg_iStokesValid : Sig := { args := [.ag [.e (.var 0), .e (.var 1), .e (.var 2), .e (.var 3), .e (.var 4), .e (.var 5), .e (.var 6), .e (.var 7), .e (.var 8), .e (.var 9), .e (.var 10), .e (.var 11)]], pre := [], tin := [.int .i64, .int .i64, .int .i64, .int .i64, .int .i64, .int .i64, .int .i64, .int .i64, .int .i64, .int .i64, .int .i64, .int .i64], gin := [], res := .c (.s (.e (.var 0))), post := [], tout := [.bool], gout := [] }
def cl_iStokesValid : List (Nat × Sig) := [(35, sg_realOk)]
theorem run_iStokesValid : run ⟨Try.prog, glb, cl_iStokesValid⟩ [] Try.f30 sg_iStokesValid (Try.f30.body.getD .skip) = tr_iStokesValid := by kernel_rfl
theorem om_iStokesValid : ΩOK ⟨Try.prog, glb, cl_iStokesValid⟩ (specsOf Fs_iStokesValid) := (ΩOK_cons cong_realOk Try.call35 ΩOK_nil)
theorem con_iStokesValid : ConOK Try.prog glb 30 sg_iStokesValid F_iStokesValid.spec := conOK_tree om_iStokesValid mixed Try.func30 (by kernel_rfl) run_iStokesValid
theorem cong_iStokesValid : ConOK Try.prog glb 30 sg_iStokesValid G_iStokesValid.spec := con_iStokesValid.as as_iStokesValid

def sg_sStokesValid : Sig := { args := [.ag [.e (.var 0), .e (.var 1), .e (.var 2), .e (.var 3), .e (.var 4), .e (.var 5), .e (.var 6), .e (.var 7), .e (.var 8), .e (.var 9), .e (.var 10), .e (.var 11)]], pre := [], tin := [.int .i64, .int .i64, .int .i64, .int .i64, .int .i64, .int .i64, .int .i64, .int .i64, .int .i64, .int .i64, .int .i64, .int .i64], gin := [], res := .c (.s (.e (.var 0))), post := [], tout := [.bool], gout := [] }
def cl_sStokesValid : List (Nat × Sig) := [(39, sg_sFracValid)]
theorem run_sStokesValid : run ⟨Try.prog, glb, cl_sStokesValid⟩ [] Try.f34 sg_sStokesValid (Try.f34.body.getD .skip) = tr_sStokesValid := by kernel_rfl
theorem om_sStokesValid : ΩOK ⟨Try.prog, glb, cl_sStokesValid⟩ (specsOf Fs_sStokesValid) := (ΩOK_cons cong_sFracValid Try.call39 ΩOK_nil)
theorem con_sStokesValid : ConOK Try.prog glb 34 sg_sStokesValid F_sStokesValid.spec := conOK_tree om_sStokesValid mixed Try.func34 (by kernel_rfl) run_sStokesValid
theorem cong_sStokesValid : ConOK Try.prog glb 34 sg_sStokesValid G_sStokesValid.spec := con_sStokesValid.as as_sStokesValid

def sg_iTableApply : Sig := { args := [.ag [.e (.var 0), .e (.var 1), .e (.var 2), .e (.var 3), .e (.var 4), .e (.var 5), .e (.var 6), .e (.var 7), .e (.var 8), .e (.var 9), .e (.var 10), .e (.var 11), .e (.var 12), .e (.var 13), .e (.var 14), .e (.var 15), .e (.var 16), .e (.var 17), .e (.var 18), .e (.var 19), .e (.var 20), .e (.var 21), .e (.var 22), .e (.var 23), .e (.var 24), .e (.var 25), .e (.var 26), .e (.var 27), .e (.var 28), .e (.var 29), .e (.var 30), .e (.var 31), .e (.var 32), .e (.var 33), .e (.var 34), .e (.var 35), .e (.var 36), .e (.var 37), .e (.var 38), .e (.var 39), .e (.var 40), .e (.var 41), .e (.var 42), .e (.var 43), .e (.var 44), .e (.var 45), .e (.var 46), .e (.var 47)], .ag [.e (.var 48), .e (.var 49), .e (.var 50), .e (.var 51), .e (.var 52), .e (.var 53), .e (.var 54), .e (.var 55), .e (.var 56), .e (.var 57), .e (.var 58), .e (.var 59)]], pre := [], tin := [.int .i64, .int .i64, .int .i64, .int .i64, .int .i64, .int .i64, .int .i64, .int .i64, .int .i64, .int .i64, .int .i64, .int .i64, .int .i64, .int .i64, .int .i64, .int .i64, .int .i64, .int .i64, .int .i64, .int .i64, .int .i64, .int .i64, .int .i64, .int .i64, .int .i64, .int .i64, .int .i64, .int .i64, .int .i64, .int .i64, .int .i64, .int .i64, .int .i64, .int .i64, .int .i64, .int .i64, .int .i64, .int .i64, .int .i64, .int .i64, .int .i64, .int .i64, .int .i64, .int .i64, .int .i64, .int .i64, .int .i64, .int .i64, .int .i64, .int .i64, .int .i64, .int .i64, .int .i64, .int .i64, .int .i64, .int .i64, .int .i64, .int .i64, .int .i64, .int .i64], gin := [], res := .tu [.ag [.e (.var 0), .e (.var 1), .e (.var 2), .e (.var 3), .e (.var 4), .e (.var 5), .e (.var 6), .e (.var 7), .e (.var 8), .e (.var 9), .e (.var 10), .e (.var 11)], .s (.e (.var 12))], post := [], tout := [.int .i64, .int .i64, .int .i64, .int .i64, .int .i64, .int .i64, .int .i64, .int .i64, .int .i64, .int .i64, .int .i64, .int .i64, .bool], gout := [] }
def cl_iTableApply : List (Nat × Sig) := [(15, sg_iTableValid), (30, sg_iStokesValid), (14, sg_need), (16, sg_times), (17, sg_add), (26, sg_gotStokes)]
theorem run_iTableApply : run ⟨Try.prog, glb, cl_iTableApply⟩ [] Try.f9 sg_iTableApply (Try.f9.body.getD .skip) = tr_iTableApply := by kernel_rfl
theorem om_iTableApply : ΩOK ⟨Try.prog, glb, cl_iTableApply⟩ (specsOf Fs_iTableApply) := (ΩOK_cons cong_iTableValid Try.call15 (ΩOK_cons cong_iStokesValid Try.call30 (ΩOK_cons cong_need Try.call14 (ΩOK_cons cong_times Try.call16 (ΩOK_cons cong_add Try.call17 (ΩOK_cons cong_gotStokes Try.call26 ΩOK_nil))))))
theorem con_iTableApply : ConOK Try.prog glb 9 sg_iTableApply F_iTableApply.spec := conOK_tree om_iTableApply mixed Try.func9 (by kernel_rfl) run_iTableApply
theorem cong_iTableApply : ConOK Try.prog glb 9 sg_iTableApply G_iTableApply.spec := con_iTableApply.as as_iTableApply

def sg_sTableApply : Sig := { args := [.ag [.e (.var 0), .e (.var 1), .e (.var 2), .e (.var 3), .e (.var 4), .e (.var 5), .e (.var 6), .e (.var 7), .e (.var 8), .e (.var 9), .e (.var 10), .e (.var 11), .e (.var 12), .e (.var 13), .e (.var 14), .e (.var 15), .e (.var 16), .e (.var 17), .e (.var 18), .e (.var 19), .e (.var 20), .e (.var 21), .e (.var 22), .e (.var 23), .e (.var 24), .e (.var 25), .e (.var 26), .e (.var 27), .e (.var 28), .e (.var 29), .e (.var 30), .e (.var 31), .e (.var 32), .e (.var 33), .e (.var 34), .e (.var 35), .e (.var 36), .e (.var 37), .e (.var 38), .e (.var 39), .e (.var 40), .e (.var 41), .e (.var 42), .e (.var 43), .e (.var 44), .e (.var 45), .e (.var 46), .e (.var 47)], .ag [.e (.var 48), .e (.var 49), .e (.var 50), .e (.var 51), .e (.var 52), .e (.var 53), .e (.var 54), .e (.var 55), .e (.var 56), .e (.var 57), .e (.var 58), .e (.var 59)]], pre := [], tin := [.int .i64, .int .i64, .int .i64, .int .i64, .int .i64, .int .i64, .int .i64, .int .i64, .int .i64, .int .i64, .int .i64, .int .i64, .int .i64, .int .i64, .int .i64, .int .i64, .int .i64, .int .i64, .int .i64, .int .i64, .int .i64, .int .i64, .int .i64, .int .i64, .int .i64, .int .i64, .int .i64, .int .i64, .int .i64, .int .i64, .int .i64, .int .i64, .int .i64, .int .i64, .int .i64, .int .i64, .int .i64, .int .i64, .int .i64, .int .i64, .int .i64, .int .i64, .int .i64, .int .i64, .int .i64, .int .i64, .int .i64, .int .i64, .int .i64, .int .i64, .int .i64, .int .i64, .int .i64, .int .i64, .int .i64, .int .i64, .int .i64, .int .i64, .int .i64, .int .i64], gin := [], res := .tu [.ag [.e (.var 0), .e (.var 1), .e (.var 2), .e (.var 3), .e (.var 4), .e (.var 5), .e (.var 6), .e (.var 7), .e (.var 8), .e (.var 9), .e (.var 10), .e (.var 11)], .s (.e (.var 12))], post := [], tout := [.int .i64, .int .i64, .int .i64, .int .i64, .int .i64, .int .i64, .int .i64, .int .i64, .int .i64, .int .i64, .int .i64, .int .i64, .bool], gout := [] }
def cl_sTableApply : List (Nat × Sig) := [(19, sg_sTableValid), (34, sg_sStokesValid), (21, sg_l6tOf0), (21, sg_l6tOf1), (21, sg_l6tOf2), (21, sg_l6tOf3), (20, sg_l6tRow)]
theorem run_sTableApply : run ⟨Try.prog, glb, cl_sTableApply⟩ [] Try.f11 sg_sTableApply (Try.f11.body.getD .skip) = tr_sTableApply := by kernel_rfl
theorem om_sTableApply : ΩOK ⟨Try.prog, glb, cl_sTableApply⟩ (specsOf Fs_sTableApply) := (ΩOK_cons cong_sTableValid Try.call19 (ΩOK_cons cong_sStokesValid Try.call34 (ΩOK_cons con_l6tOf0 Try.call21 (ΩOK_cons con_l6tOf1 Try.call21 (ΩOK_cons con_l6tOf2 Try.call21 (ΩOK_cons con_l6tOf3 Try.call21 (ΩOK_cons cong_l6tRow Try.call20 ΩOK_nil)))))))
theorem con_sTableApply : ConOK Try.prog glb 11 sg_sTableApply F_sTableApply.spec := conOK_tree om_sTableApply mixed Try.func11 (by kernel_rfl) run_sTableApply
theorem cong_sTableApply : ConOK Try.prog glb 11 sg_sTableApply G_sTableApply.spec := con_sTableApply.as as_sTableApply

def sg_l3Inner : Sig := { args := [.ag [.e (.var 0), .e (.var 1), .e (.var 2)], .ag [.e (.var 3), .e (.var 4), .e (.var 5)], .ag [.e (.var 6), .e (.var 7), .e (.var 8)], .ag [.e (.var 9), .e (.var 10), .e (.var 11)]], pre := [], tin := [.int .i64, .int .i64, .int .i64, .int .i64, .int .i64, .int .i64, .int .i64, .int .i64, .int .i64, .int .i64, .int .i64, .int .i64], gin := [], res := .tu [.ag [.e (.var 0), .e (.var 1), .e (.var 2)], .s (.e (.var 3))], post := [], tout := [.int .i64, .int .i64, .int .i64, .bool], gout := [] }
def cl_l3Inner : List (Nat × Sig) := [(40, sg_sFracTimes), (74, sg_sFracAdd)]
theorem run_l3Inner : run ⟨Try.prog, glb, cl_l3Inner⟩ [] Try.f86 sg_l3Inner (Try.f86.body.getD .skip) = tr_l3Inner := by kernel_rfl
theorem om_l3Inner : ΩOK ⟨Try.prog, glb, cl_l3Inner⟩ (specsOf Fs_l3Inner) := (ΩOK_cons cong_sFracTimes Try.call40 (ΩOK_cons cong_sFracAdd Try.call74 ΩOK_nil))
theorem con_l3Inner : ConOK Try.prog glb 86 sg_l3Inner F_l3Inner.spec := conOK_tree om_l3Inner mixed Try.func86 (by kernel_rfl) run_l3Inner
theorem cong_l3Inner : ConOK Try.prog glb 86 sg_l3Inner G_l3Inner.spec := con_l3Inner.as as_l3Inner

def sg_sMatValid : Sig := { args := [.ag [.e (.var 0), .e (.var 1), .e (.var 2), .e (.var 3), .e (.var 4), .e (.var 5), .e (.var 6), .e (.var 7), .e (.var 8), .e (.var 9), .e (.var 10), .e (.var 11)]], pre := [], tin := [.int .i64, .int .i64, .int .i64, .int .i64, .int .i64, .int .i64, .int .i64, .int .i64, .int .i64, .int .i64, .int .i64, .int .i64], gin := [], res := .c (.s (.e (.var 0))), post := [], tout := [.bool], gout := [] }
def cl_sMatValid : List (Nat × Sig) := [(39, sg_sFracValid)]
theorem run_sMatValid : run ⟨Try.prog, glb, cl_sMatValid⟩ [] Try.f63 sg_sMatValid (Try.f63.body.getD .skip) = tr_sMatValid := by kernel_rfl
theorem om_sMatValid : ΩOK ⟨Try.prog, glb, cl_sMatValid⟩ (specsOf Fs_sMatValid) := (ΩOK_cons cong_sFracValid Try.call39 ΩOK_nil)
theorem con_sMatValid : ConOK Try.prog glb 63 sg_sMatValid F_sMatValid.spec := conOK_tree om_sMatValid mixed Try.func63 (by kernel_rfl) run_sMatValid
theorem cong_sMatValid : ConOK Try.prog glb 63 sg_sMatValid G_sMatValid.spec := con_sMatValid.as as_sMatValid

def sg_sFracMirror : Sig := { args := [.ag [.e (.var 0), .e (.var 1), .e (.var 2)]], pre := [], tin := [.int .i64, .int .i64, .int .i64], gin := [], res := .tu [.ag [.e (.var 0), .e (.var 1), .e (.var 2)], .s (.e (.var 3))], post := [], tout := [.int .i64, .int .i64, .int .i64, .bool], gout := [] }
def cl_sFracMirror : List (Nat × Sig) := [(39, sg_sFracValid)]
theorem run_sFracMirror : run ⟨Try.prog, glb, cl_sFracMirror⟩ [] Try.f73 sg_sFracMirror (Try.f73.body.getD .skip) = tr_sFracMirror := by kernel_rfl
theorem om_sFracMirror : ΩOK ⟨Try.prog, glb, cl_sFracMirror⟩ (specsOf Fs_sFracMirror) := (ΩOK_cons cong_sFracValid Try.call39 ΩOK_nil)
theorem con_sFracMirror : ConOK Try.prog glb 73 sg_sFracMirror F_sFracMirror.spec := conOK_tree om_sFracMirror mixed Try.func73 (by kernel_rfl) run_sFracMirror
theorem cong_sFracMirror : ConOK Try.prog glb 73 sg_sFracMirror G_sFracMirror.spec := con_sFracMirror.as as_sFracMirror

def sg_l2SumP : Sig := { args := [.ag [.e (.var 0), .e (.var 1), .e (.var 2)], .s (.e (.int .i64 (1))), .ag [.e (.var 3), .e (.var 4), .e (.var 5)]], pre := [], tin := [.int .i64, .int .i64, .int .i64, .int .i64, .int .i64, .int .i64], gin := [], res := .tu [.ag [.e (.var 0), .e (.var 1), .e (.var 2)], .s (.e (.var 3))], post := [], tout := [.int .i64, .int .i64, .int .i64, .bool], gout := [] }
def cl_l2SumP : List (Nat × Sig) := [(39, sg_sFracValid), (58, sg_l2Low)]
theorem run_l2SumP : run ⟨Try.prog, glb, cl_l2SumP⟩ [] Try.f59 sg_l2SumP (Try.f59.body.getD .skip) = tr_l2SumP := by kernel_rfl
theorem om_l2SumP : ΩOK ⟨Try.prog, glb, cl_l2SumP⟩ (specsOf Fs_l2SumP) := (ΩOK_cons cong_sFracValid Try.call39 (ΩOK_cons cong_l2Low Try.call58 ΩOK_nil))
theorem con_l2SumP : ConOK Try.prog glb 59 sg_l2SumP F_l2SumP.spec := conOK_tree om_l2SumP mixed Try.func59 (by kernel_rfl) run_l2SumP
theorem cong_l2SumP : ConOK Try.prog glb 59 sg_l2SumP G_l2SumP.spec := con_l2SumP.as as_l2SumP

def sg_l2SumM : Sig := { args := [.ag [.e (.var 0), .e (.var 1), .e (.var 2)], .s (.e (.int .i64 (-1))), .ag [.e (.var 3), .e (.var 4), .e (.var 5)]], pre := [], tin := [.int .i64, .int .i64, .int .i64, .int .i64, .int .i64, .int .i64], gin := [], res := .tu [.ag [.e (.var 0), .e (.var 1), .e (.var 2)], .s (.e (.var 3))], post := [], tout := [.int .i64, .int .i64, .int .i64, .bool], gout := [] }
def cl_l2SumM : List (Nat × Sig) := [(39, sg_sFracValid), (58, sg_l2Low)]
theorem run_l2SumM : run ⟨Try.prog, glb, cl_l2SumM⟩ [] Try.f59 sg_l2SumM (Try.f59.body.getD .skip) = tr_l2SumM := by kernel_rfl
theorem om_l2SumM : ΩOK ⟨Try.prog, glb, cl_l2SumM⟩ (specsOf Fs_l2SumM) := (ΩOK_cons cong_sFracValid Try.call39 (ΩOK_cons cong_l2Low Try.call58 ΩOK_nil))
theorem con_l2SumM : ConOK Try.prog glb 59 sg_l2SumM F_l2SumM.spec := conOK_tree om_l2SumM mixed Try.func59 (by kernel_rfl) run_l2SumM
theorem cong_l2SumM : ConOK Try.prog glb 59 sg_l2SumM G_l2SumM.spec := con_l2SumM.as as_l2SumM

def sg_l6tAddP : Sig := { args := [.s (.p (.own 0) 0), .ag [.e (.var 0), .e (.var 1), .e (.var 2)], .s (.e (.int .i64 (1))), .ag [.e (.var 3), .e (.var 4), .e (.var 5)]], pre := [⟨[.e (.var 6)], 53⟩], tin := [.int .i64, .int .i64, .int .i64, .int .i64, .int .i64, .int .i64, .bool], gin := [], res := .c (.ag [.e (.var 0), .e (.var 1), .e (.var 2)]), post := [⟨[.e (.var 3)], 53⟩], tout := [.int .i64, .int .i64, .int .i64, .bool], gout := [] }
def cl_l6tAddP : List (Nat × Sig) := [(59, sg_l2SumP)]
theorem run_l6tAddP : run ⟨Try.prog, glb, cl_l6tAddP⟩ [] Try.f41 sg_l6tAddP (Try.f41.body.getD .skip) = tr_l6tAddP := by kernel_rfl
theorem om_l6tAddP : ΩOK ⟨Try.prog, glb, cl_l6tAddP⟩ (specsOf Fs_l6tAddP) := (ΩOK_cons cong_l2SumP Try.call59 ΩOK_nil)
theorem con_l6tAddP : ConOK Try.prog glb 41 sg_l6tAddP F_l6tAddP.spec := conOK_tree om_l6tAddP mixed Try.func41 (by kernel_rfl) run_l6tAddP
theorem cong_l6tAddP : ConOK Try.prog glb 41 sg_l6tAddP G_l6tAddP.spec := con_l6tAddP.as as_l6tAddP

def sg_l6tAddM : Sig := { args := [.s (.p (.own 0) 0), .ag [.e (.var 0), .e (.var 1), .e (.var 2)], .s (.e (.int .i64 (-1))), .ag [.e (.var 3), .e (.var 4), .e (.var 5)]], pre := [⟨[.e (.var 6)], 53⟩], tin := [.int .i64, .int .i64, .int .i64, .int .i64, .int .i64, .int .i64, .bool], gin := [], res := .c (.ag [.e (.var 0), .e (.var 1), .e (.var 2)]), post := [⟨[.e (.var 3)], 53⟩], tout := [.int .i64, .int .i64, .int .i64, .bool], gout := [] }
def cl_l6tAddM : List (Nat × Sig) := [(59, sg_l2SumM)]
theorem run_l6tAddM : run ⟨Try.prog, glb, cl_l6tAddM⟩ [] Try.f41 sg_l6tAddM (Try.f41.body.getD .skip) = tr_l6tAddM := by kernel_rfl
theorem om_l6tAddM : ΩOK ⟨Try.prog, glb, cl_l6tAddM⟩ (specsOf Fs_l6tAddM) := (ΩOK_cons cong_l2SumM Try.call59 ΩOK_nil)
theorem con_l6tAddM : ConOK Try.prog glb 41 sg_l6tAddM F_l6tAddM.spec := conOK_tree om_l6tAddM mixed Try.func41 (by kernel_rfl) run_l6tAddM
theorem cong_l6tAddM : ConOK Try.prog glb 41 sg_l6tAddM G_l6tAddM.spec := con_l6tAddM.as as_l6tAddM

def sg_l6tPair : Sig := { args := [.s (.p (.own 0) 0), .ag [.e (.var 0), .e (.var 1), .e (.var 2)], .ag [.e (.var 3), .e (.var 4), .e (.var 5)]], pre := [⟨[.e (.var 6)], 53⟩], tin := [.int .i64, .int .i64, .int .i64, .int .i64, .int .i64, .int .i64, .bool], gin := [], res := .c (.ag [.e (.var 0), .e (.var 1), .e (.var 2)]), post := [⟨[.e (.var 3)], 53⟩], tout := [.int .i64, .int .i64, .int .i64, .bool], gout := [] }
def cl_l6tPair : List (Nat × Sig) := [(73, sg_sFracMirror), (40, sg_sFracTimes)]
theorem run_l6tPair : run ⟨Try.prog, glb, cl_l6tPair⟩ [] Try.f77 sg_l6tPair (Try.f77.body.getD .skip) = tr_l6tPair := by kernel_rfl
theorem om_l6tPair : ΩOK ⟨Try.prog, glb, cl_l6tPair⟩ (specsOf Fs_l6tPair) := (ΩOK_cons cong_sFracMirror Try.call73 (ΩOK_cons cong_sFracTimes Try.call40 ΩOK_nil))
theorem con_l6tPair : ConOK Try.prog glb 77 sg_l6tPair F_l6tPair.spec := conOK_tree om_l6tPair mixed Try.func77 (by kernel_rfl) run_l6tPair
theorem cong_l6tPair : ConOK Try.prog glb 77 sg_l6tPair G_l6tPair.spec := con_l6tPair.as as_l6tPair

def sg_l6tPart20 : Sig := { args := [.s (.p (.own 0) 0), .ag [.e (.var 0), .e (.var 1), .e (.var 2)], .s (.e (.int .i64 (2))), .s (.e (.bool false))], pre := [⟨[.e (.var 3)], 53⟩], tin := [.int .i64, .int .i64, .int .i64, .bool], gin := [], res := .c (.ag [.e (.var 0), .e (.var 1), .e (.var 2)]), post := [⟨[.e (.var 3)], 53⟩], tout := [.int .i64, .int .i64, .int .i64, .bool], gout := [] }
def cl_l6tPart20 : List (Nat × Sig) := [(85, sg_sFracMake)]
theorem run_l6tPart20 : run ⟨Try.prog, glb, cl_l6tPart20⟩ [] Try.f78 sg_l6tPart20 (Try.f78.body.getD .skip) = tr_l6tPart20 := by kernel_rfl
theorem om_l6tPart20 : ΩOK ⟨Try.prog, glb, cl_l6tPart20⟩ (specsOf Fs_l6tPart20) := (ΩOK_cons cong_sFracMake Try.call85 ΩOK_nil)
theorem con_l6tPart20 : ConOK Try.prog glb 78 sg_l6tPart20 F_l6tPart20.spec := conOK_tree om_l6tPart20 mixed Try.func78 (by kernel_rfl) run_l6tPart20
theorem cong_l6tPart20 : ConOK Try.prog glb 78 sg_l6tPart20 G_l6tPart20.spec := con_l6tPart20.as as_l6tPart20

def sg_l6tPart10 : Sig := { args := [.s (.p (.own 0) 0), .ag [.e (.var 0), .e (.var 1), .e (.var 2)], .s (.e (.int .i64 (1))), .s (.e (.bool false))], pre := [⟨[.e (.var 3)], 53⟩], tin := [.int .i64, .int .i64, .int .i64, .bool], gin := [], res := .c (.ag [.e (.var 0), .e (.var 1), .e (.var 2)]), post := [⟨[.e (.var 3)], 53⟩], tout := [.int .i64, .int .i64, .int .i64, .bool], gout := [] }
def cl_l6tPart10 : List (Nat × Sig) := [(85, sg_sFracMake)]
theorem run_l6tPart10 : run ⟨Try.prog, glb, cl_l6tPart10⟩ [] Try.f78 sg_l6tPart10 (Try.f78.body.getD .skip) = tr_l6tPart10 := by kernel_rfl
theorem om_l6tPart10 : ΩOK ⟨Try.prog, glb, cl_l6tPart10⟩ (specsOf Fs_l6tPart10) := (ΩOK_cons cong_sFracMake Try.call85 ΩOK_nil)
theorem con_l6tPart10 : ConOK Try.prog glb 78 sg_l6tPart10 F_l6tPart10.spec := conOK_tree om_l6tPart10 mixed Try.func78 (by kernel_rfl) run_l6tPart10
theorem cong_l6tPart10 : ConOK Try.prog glb 78 sg_l6tPart10 G_l6tPart10.spec := con_l6tPart10.as as_l6tPart10

def sg_l6tPart11 : Sig := { args := [.s (.p (.own 0) 0), .ag [.e (.var 0), .e (.var 1), .e (.var 2)], .s (.e (.int .i64 (1))), .s (.e (.bool true))], pre := [⟨[.e (.var 3)], 53⟩], tin := [.int .i64, .int .i64, .int .i64, .bool], gin := [], res := .c (.ag [.e (.var 0), .e (.var 1), .e (.var 2)]), post := [⟨[.e (.var 3)], 53⟩], tout := [.int .i64, .int .i64, .int .i64, .bool], gout := [] }
def cl_l6tPart11 : List (Nat × Sig) := [(85, sg_sFracMake)]
theorem run_l6tPart11 : run ⟨Try.prog, glb, cl_l6tPart11⟩ [] Try.f78 sg_l6tPart11 (Try.f78.body.getD .skip) = tr_l6tPart11 := by kernel_rfl
theorem om_l6tPart11 : ΩOK ⟨Try.prog, glb, cl_l6tPart11⟩ (specsOf Fs_l6tPart11) := (ΩOK_cons cong_sFracMake Try.call85 ΩOK_nil)
theorem con_l6tPart11 : ConOK Try.prog glb 78 sg_l6tPart11 F_l6tPart11.spec := conOK_tree om_l6tPart11 mixed Try.func78 (by kernel_rfl) run_l6tPart11
theorem cong_l6tPart11 : ConOK Try.prog glb 78 sg_l6tPart11 G_l6tPart11.spec := con_l6tPart11.as as_l6tPart11

def sg_l6tPowersA : Sig := { args := [.s (.p (.own 0) 0), .ag [.e (.var 0), .e (.var 1), .e (.var 2), .e (.var 3), .e (.var 4), .e (.var 5), .e (.var 6), .e (.var 7), .e (.var 8), .e (.var 9), .e (.var 10), .e (.var 11)], .s (.e (.int .i64 (1))), .s (.e (.int .i64 (1))), .s (.e (.int .i64 (1)))], pre := [⟨[.e (.var 12)], 53⟩], tin := [.int .i64, .int .i64, .int .i64, .int .i64, .int .i64, .int .i64, .int .i64, .int .i64, .int .i64, .int .i64, .int .i64, .int .i64, .bool], gin := [], res := .c (.ag [.e (.var 0), .e (.var 1), .e (.var 2)]), post := [⟨[.e (.var 3)], 53⟩], tout := [.int .i64, .int .i64, .int .i64, .bool], gout := [] }
def cl_l6tPowersA : List (Nat × Sig) := [(77, sg_l6tPair), (41, sg_l6tAddP), (41, sg_l6tAddM), (78, sg_l6tPart20)]
theorem run_l6tPowersA : run ⟨Try.prog, glb, cl_l6tPowersA⟩ [] Try.f64 sg_l6tPowersA (Try.f64.body.getD .skip) = tr_l6tPowersA := by kernel_rfl
theorem om_l6tPowersA : ΩOK ⟨Try.prog, glb, cl_l6tPowersA⟩ (specsOf Fs_l6tPowersA) := (ΩOK_cons cong_l6tPair Try.call77 (ΩOK_cons cong_l6tAddP Try.call41 (ΩOK_cons cong_l6tAddM Try.call41 (ΩOK_cons cong_l6tPart20 Try.call78 ΩOK_nil))))
theorem con_l6tPowersA : ConOK Try.prog glb 64 sg_l6tPowersA F_l6tPowersA.spec := conOK_tree om_l6tPowersA mixed Try.func64 (by kernel_rfl) run_l6tPowersA

def sg_l6tPowersB : Sig := { args := [.s (.p (.own 0) 0), .ag [.e (.var 0), .e (.var 1), .e (.var 2), .e (.var 3), .e (.var 4), .e (.var 5), .e (.var 6), .e (.var 7), .e (.var 8), .e (.var 9), .e (.var 10), .e (.var 11)], .s (.e (.int .i64 (-1))), .s (.e (.int .i64 (1))), .s (.e (.int .i64 (-1)))], pre := [⟨[.e (.var 12)], 53⟩], tin := [.int .i64, .int .i64, .int .i64, .int .i64, .int .i64, .int .i64, .int .i64, .int .i64, .int .i64, .int .i64, .int .i64, .int .i64, .bool], gin := [], res := .c (.ag [.e (.var 0), .e (.var 1), .e (.var 2)]), post := [⟨[.e (.var 3)], 53⟩], tout := [.int .i64, .int .i64, .int .i64, .bool], gout := [] }
def cl_l6tPowersB : List (Nat × Sig) := [(77, sg_l6tPair), (41, sg_l6tAddP), (41, sg_l6tAddM), (78, sg_l6tPart20)]
theorem run_l6tPowersB : run ⟨Try.prog, glb, cl_l6tPowersB⟩ [] Try.f64 sg_l6tPowersB (Try.f64.body.getD .skip) = tr_l6tPowersB := by kernel_rfl
theorem om_l6tPowersB : ΩOK ⟨Try.prog, glb, cl_l6tPowersB⟩ (specsOf Fs_l6tPowersB) := (ΩOK_cons cong_l6tPair Try.call77 (ΩOK_cons cong_l6tAddP Try.call41 (ΩOK_cons cong_l6tAddM Try.call41 (ΩOK_cons cong_l6tPart20 Try.call78 ΩOK_nil))))
theorem con_l6tPowersB : ConOK Try.prog glb 64 sg_l6tPowersB F_l6tPowersB.spec := conOK_tree om_l6tPowersB mixed Try.func64 (by kernel_rfl) run_l6tPowersB

def sg_l6tPowersC : Sig := { args := [.s (.p (.own 0) 0), .ag [.e (.var 0), .e (.var 1), .e (.var 2), .e (.var 3), .e (.var 4), .e (.var 5), .e (.var 6), .e (.var 7), .e (.var 8), .e (.var 9), .e (.var 10), .e (.var 11)], .s (.e (.int .i64 (1))), .s (.e (.int .i64 (-1))), .s (.e (.int .i64 (-1)))], pre := [⟨[.e (.var 12)], 53⟩], tin := [.int .i64, .int .i64, .int .i64, .int .i64, .int .i64, .int .i64, .int .i64, .int .i64, .int .i64, .int .i64, .int .i64, .int .i64, .bool], gin := [], res := .c (.ag [.e (.var 0), .e (.var 1), .e (.var 2)]), post := [⟨[.e (.var 3)], 53⟩], tout := [.int .i64, .int .i64, .int .i64, .bool], gout := [] }
def cl_l6tPowersC : List (Nat × Sig) := [(77, sg_l6tPair), (41, sg_l6tAddP), (41, sg_l6tAddM), (78, sg_l6tPart20)]
theorem run_l6tPowersC : run ⟨Try.prog, glb, cl_l6tPowersC⟩ [] Try.f64 sg_l6tPowersC (Try.f64.body.getD .skip) = tr_l6tPowersC := by kernel_rfl
theorem om_l6tPowersC : ΩOK ⟨Try.prog, glb, cl_l6tPowersC⟩ (specsOf Fs_l6tPowersC) := (ΩOK_cons cong_l6tPair Try.call77 (ΩOK_cons cong_l6tAddP Try.call41 (ΩOK_cons cong_l6tAddM Try.call41 (ΩOK_cons cong_l6tPart20 Try.call78 ΩOK_nil))))
theorem con_l6tPowersC : ConOK Try.prog glb 64 sg_l6tPowersC F_l6tPowersC.spec := conOK_tree om_l6tPowersC mixed Try.func64 (by kernel_rfl) run_l6tPowersC

def sg_l6tPowersD : Sig := { args := [.s (.p (.own 0) 0), .ag [.e (.var 0), .e (.var 1), .e (.var 2), .e (.var 3), .e (.var 4), .e (.var 5), .e (.var 6), .e (.var 7), .e (.var 8), .e (.var 9), .e (.var 10), .e (.var 11)], .s (.e (.int .i64 (-1))), .s (.e (.int .i64 (-1))), .s (.e (.int .i64 (1)))], pre := [⟨[.e (.var 12)], 53⟩], tin := [.int .i64, .int .i64, .int .i64, .int .i64, .int .i64, .int .i64, .int .i64, .int .i64, .int .i64, .int .i64, .int .i64, .int .i64, .bool], gin := [], res := .c (.ag [.e (.var 0), .e (.var 1), .e (.var 2)]), post := [⟨[.e (.var 3)], 53⟩], tout := [.int .i64, .int .i64, .int .i64, .bool], gout := [] }
def cl_l6tPowersD : List (Nat × Sig) := [(77, sg_l6tPair), (41, sg_l6tAddP), (41, sg_l6tAddM), (78, sg_l6tPart20)]
theorem run_l6tPowersD : run ⟨Try.prog, glb, cl_l6tPowersD⟩ [] Try.f64 sg_l6tPowersD (Try.f64.body.getD .skip) = tr_l6tPowersD := by kernel_rfl
theorem om_l6tPowersD : ΩOK ⟨Try.prog, glb, cl_l6tPowersD⟩ (specsOf Fs_l6tPowersD) := (ΩOK_cons cong_l6tPair Try.call77 (ΩOK_cons cong_l6tAddP Try.call41 (ΩOK_cons cong_l6tAddM Try.call41 (ΩOK_cons cong_l6tPart20 Try.call78 ΩOK_nil))))
theorem con_l6tPowersD : ConOK Try.prog glb 64 sg_l6tPowersD F_l6tPowersD.spec := conOK_tree om_l6tPowersD mixed Try.func64 (by kernel_rfl) run_l6tPowersD

def sg_l6tTwo2 : Sig := { args := [.s (.p (.own 0) 0), .ag [.e (.var 0), .e (.var 1), .e (.var 2), .e (.var 3), .e (.var 4), .e (.var 5), .e (.var 6), .e (.var 7), .e (.var 8), .e (.var 9), .e (.var 10), .e (.var 11)], .s (.e (.int .i64 (0))), .s (.e (.int .i64 (1))), .s (.e (.int .i64 (1))), .s (.e (.int .i64 (2))), .s (.e (.int .i64 (3))), .s (.e (.bool false))], pre := [⟨[.e (.var 12)], 53⟩], tin := [.int .i64, .int .i64, .int .i64, .int .i64, .int .i64, .int .i64, .int .i64, .int .i64, .int .i64, .int .i64, .int .i64, .int .i64, .bool], gin := [], res := .c (.ag [.e (.var 0), .e (.var 1), .e (.var 2)]), post := [⟨[.e (.var 3)], 53⟩], tout := [.int .i64, .int .i64, .int .i64, .bool], gout := [] }
def cl_l6tTwo2 : List (Nat × Sig) := [(77, sg_l6tPair), (41, sg_l6tAddP), (78, sg_l6tPart10)]
theorem run_l6tTwo2 : run ⟨Try.prog, glb, cl_l6tTwo2⟩ [] Try.f65 sg_l6tTwo2 (Try.f65.body.getD .skip) = tr_l6tTwo2 := by kernel_rfl
theorem om_l6tTwo2 : ΩOK ⟨Try.prog, glb, cl_l6tTwo2⟩ (specsOf Fs_l6tTwo2) := (ΩOK_cons cong_l6tPair Try.call77 (ΩOK_cons cong_l6tAddP Try.call41 (ΩOK_cons cong_l6tPart10 Try.call78 ΩOK_nil)))
theorem con_l6tTwo2 : ConOK Try.prog glb 65 sg_l6tTwo2 F_l6tTwo2.spec := conOK_tree om_l6tTwo2 mixed Try.func65 (by kernel_rfl) run_l6tTwo2

def sg_l6tTwo3 : Sig := { args := [.s (.p (.own 0) 0), .ag [.e (.var 0), .e (.var 1), .e (.var 2), .e (.var 3), .e (.var 4), .e (.var 5), .e (.var 6), .e (.var 7), .e (.var 8), .e (.var 9), .e (.var 10), .e (.var 11)], .s (.e (.int .i64 (1))), .s (.e (.int .i64 (0))), .s (.e (.int .i64 (1))), .s (.e (.int .i64 (3))), .s (.e (.int .i64 (2))), .s (.e (.bool true))], pre := [⟨[.e (.var 12)], 53⟩], tin := [.int .i64, .int .i64, .int .i64, .int .i64, .int .i64, .int .i64, .int .i64, .int .i64, .int .i64, .int .i64, .int .i64, .int .i64, .bool], gin := [], res := .c (.ag [.e (.var 0), .e (.var 1), .e (.var 2)]), post := [⟨[.e (.var 3)], 53⟩], tout := [.int .i64, .int .i64, .int .i64, .bool], gout := [] }
def cl_l6tTwo3 : List (Nat × Sig) := [(77, sg_l6tPair), (41, sg_l6tAddP), (78, sg_l6tPart11)]
theorem run_l6tTwo3 : run ⟨Try.prog, glb, cl_l6tTwo3⟩ [] Try.f65 sg_l6tTwo3 (Try.f65.body.getD .skip) = tr_l6tTwo3 := by kernel_rfl
theorem om_l6tTwo3 : ΩOK ⟨Try.prog, glb, cl_l6tTwo3⟩ (specsOf Fs_l6tTwo3) := (ΩOK_cons cong_l6tPair Try.call77 (ΩOK_cons cong_l6tAddP Try.call41 (ΩOK_cons cong_l6tPart11 Try.call78 ΩOK_nil)))
theorem con_l6tTwo3 : ConOK Try.prog glb 65 sg_l6tTwo3 F_l6tTwo3.spec := conOK_tree om_l6tTwo3 mixed Try.func65 (by kernel_rfl) run_l6tTwo3

def sg_l6tTwo6 : Sig := { args := [.s (.p (.own 0) 0), .ag [.e (.var 0), .e (.var 1), .e (.var 2), .e (.var 3), .e (.var 4), .e (.var 5), .e (.var 6), .e (.var 7), .e (.var 8), .e (.var 9), .e (.var 10), .e (.var 11)], .s (.e (.int .i64 (0))), .s (.e (.int .i64 (1))), .s (.e (.int .i64 (-1))), .s (.e (.int .i64 (2))), .s (.e (.int .i64 (3))), .s (.e (.bool false))], pre := [⟨[.e (.var 12)], 53⟩], tin := [.int .i64, .int .i64, .int .i64, .int .i64, .int .i64, .int .i64, .int .i64, .int .i64, .int .i64, .int .i64, .int .i64, .int .i64, .bool], gin := [], res := .c (.ag [.e (.var 0), .e (.var 1), .e (.var 2)]), post := [⟨[.e (.var 3)], 53⟩], tout := [.int .i64, .int .i64, .int .i64, .bool], gout := [] }
def cl_l6tTwo6 : List (Nat × Sig) := [(77, sg_l6tPair), (41, sg_l6tAddM), (78, sg_l6tPart10)]
theorem run_l6tTwo6 : run ⟨Try.prog, glb, cl_l6tTwo6⟩ [] Try.f65 sg_l6tTwo6 (Try.f65.body.getD .skip) = tr_l6tTwo6 := by kernel_rfl
theorem om_l6tTwo6 : ΩOK ⟨Try.prog, glb, cl_l6tTwo6⟩ (specsOf Fs_l6tTwo6) := (ΩOK_cons cong_l6tPair Try.call77 (ΩOK_cons cong_l6tAddM Try.call41 (ΩOK_cons cong_l6tPart10 Try.call78 ΩOK_nil)))
theorem con_l6tTwo6 : ConOK Try.prog glb 65 sg_l6tTwo6 F_l6tTwo6.spec := conOK_tree om_l6tTwo6 mixed Try.func65 (by kernel_rfl) run_l6tTwo6

def sg_l6tTwo7 : Sig := { args := [.s (.p (.own 0) 0), .ag [.e (.var 0), .e (.var 1), .e (.var 2), .e (.var 3), .e (.var 4), .e (.var 5), .e (.var 6), .e (.var 7), .e (.var 8), .e (.var 9), .e (.var 10), .e (.var 11)], .s (.e (.int .i64 (1))), .s (.e (.int .i64 (0))), .s (.e (.int .i64 (-1))), .s (.e (.int .i64 (3))), .s (.e (.int .i64 (2))), .s (.e (.bool true))], pre := [⟨[.e (.var 12)], 53⟩], tin := [.int .i64, .int .i64, .int .i64, .int .i64, .int .i64, .int .i64, .int .i64, .int .i64, .int .i64, .int .i64, .int .i64, .int .i64, .bool], gin := [], res := .c (.ag [.e (.var 0), .e (.var 1), .e (.var 2)]), post := [⟨[.e (.var 3)], 53⟩], tout := [.int .i64, .int .i64, .int .i64, .bool], gout := [] }
def cl_l6tTwo7 : List (Nat × Sig) := [(77, sg_l6tPair), (41, sg_l6tAddM), (78, sg_l6tPart11)]
theorem run_l6tTwo7 : run ⟨Try.prog, glb, cl_l6tTwo7⟩ [] Try.f65 sg_l6tTwo7 (Try.f65.body.getD .skip) = tr_l6tTwo7 := by kernel_rfl
theorem om_l6tTwo7 : ΩOK ⟨Try.prog, glb, cl_l6tTwo7⟩ (specsOf Fs_l6tTwo7) := (ΩOK_cons cong_l6tPair Try.call77 (ΩOK_cons cong_l6tAddM Try.call41 (ΩOK_cons cong_l6tPart11 Try.call78 ΩOK_nil)))
theorem con_l6tTwo7 : ConOK Try.prog glb 65 sg_l6tTwo7 F_l6tTwo7.spec := conOK_tree om_l6tTwo7 mixed Try.func65 (by kernel_rfl) run_l6tTwo7

def sg_l6tTwo8 : Sig := { args := [.s (.p (.own 0) 0), .ag [.e (.var 0), .e (.var 1), .e (.var 2), .e (.var 3), .e (.var 4), .e (.var 5), .e (.var 6), .e (.var 7), .e (.var 8), .e (.var 9), .e (.var 10), .e (.var 11)], .s (.e (.int .i64 (0))), .s (.e (.int .i64 (2))), .s (.e (.int .i64 (1))), .s (.e (.int .i64 (1))), .s (.e (.int .i64 (3))), .s (.e (.bool false))], pre := [⟨[.e (.var 12)], 53⟩], tin := [.int .i64, .int .i64, .int .i64, .int .i64, .int .i64, .int .i64, .int .i64, .int .i64, .int .i64, .int .i64, .int .i64, .int .i64, .bool], gin := [], res := .c (.ag [.e (.var 0), .e (.var 1), .e (.var 2)]), post := [⟨[.e (.var 3)], 53⟩], tout := [.int .i64, .int .i64, .int .i64, .bool], gout := [] }
def cl_l6tTwo8 : List (Nat × Sig) := [(77, sg_l6tPair), (41, sg_l6tAddP), (78, sg_l6tPart10)]
theorem run_l6tTwo8 : run ⟨Try.prog, glb, cl_l6tTwo8⟩ [] Try.f65 sg_l6tTwo8 (Try.f65.body.getD .skip) = tr_l6tTwo8 := by kernel_rfl
theorem om_l6tTwo8 : ΩOK ⟨Try.prog, glb, cl_l6tTwo8⟩ (specsOf Fs_l6tTwo8) := (ΩOK_cons cong_l6tPair Try.call77 (ΩOK_cons cong_l6tAddP Try.call41 (ΩOK_cons cong_l6tPart10 Try.call78 ΩOK_nil)))
theorem con_l6tTwo8 : ConOK Try.prog glb 65 sg_l6tTwo8 F_l6tTwo8.spec := conOK_tree om_l6tTwo8 mixed Try.func65 (by kernel_rfl) run_l6tTwo8

def sg_l6tTwo9 : Sig := { args := [.s (.p (.own 0) 0), .ag [.e (.var 0), .e (.var 1), .e (.var 2), .e (.var 3), .e (.var 4), .e (.var 5), .e (.var 6), .e (.var 7), .e (.var 8), .e (.var 9), .e (.var 10), .e (.var 11)], .s (.e (.int .i64 (0))), .s (.e (.int .i64 (2))), .s (.e (.int .i64 (-1))), .s (.e (.int .i64 (1))), .s (.e (.int .i64 (3))), .s (.e (.bool false))], pre := [⟨[.e (.var 12)], 53⟩], tin := [.int .i64, .int .i64, .int .i64, .int .i64, .int .i64, .int .i64, .int .i64, .int .i64, .int .i64, .int .i64, .int .i64, .int .i64, .bool], gin := [], res := .c (.ag [.e (.var 0), .e (.var 1), .e (.var 2)]), post := [⟨[.e (.var 3)], 53⟩], tout := [.int .i64, .int .i64, .int .i64, .bool], gout := [] }
def cl_l6tTwo9 : List (Nat × Sig) := [(77, sg_l6tPair), (41, sg_l6tAddM), (78, sg_l6tPart10)]
theorem run_l6tTwo9 : run ⟨Try.prog, glb, cl_l6tTwo9⟩ [] Try.f65 sg_l6tTwo9 (Try.f65.body.getD .skip) = tr_l6tTwo9 := by kernel_rfl
theorem om_l6tTwo9 : ΩOK ⟨Try.prog, glb, cl_l6tTwo9⟩ (specsOf Fs_l6tTwo9) := (ΩOK_cons cong_l6tPair Try.call77 (ΩOK_cons cong_l6tAddM Try.call41 (ΩOK_cons cong_l6tPart10 Try.call78 ΩOK_nil)))
theorem con_l6tTwo9 : ConOK Try.prog glb 65 sg_l6tTwo9 F_l6tTwo9.spec := conOK_tree om_l6tTwo9 mixed Try.func65 (by kernel_rfl) run_l6tTwo9

def sg_l6tTwo10 : Sig := { args := [.s (.p (.own 0) 0), .ag [.e (.var 0), .e (.var 1), .e (.var 2), .e (.var 3), .e (.var 4), .e (.var 5), .e (.var 6), .e (.var 7), .e (.var 8), .e (.var 9), .e (.var 10), .e (.var 11)], .s (.e (.int .i64 (0))), .s (.e (.int .i64 (3))), .s (.e (.int .i64 (1))), .s (.e (.int .i64 (1))), .s (.e (.int .i64 (2))), .s (.e (.bool false))], pre := [⟨[.e (.var 12)], 53⟩], tin := [.int .i64, .int .i64, .int .i64, .int .i64, .int .i64, .int .i64, .int .i64, .int .i64, .int .i64, .int .i64, .int .i64, .int .i64, .bool], gin := [], res := .c (.ag [.e (.var 0), .e (.var 1), .e (.var 2)]), post := [⟨[.e (.var 3)], 53⟩], tout := [.int .i64, .int .i64, .int .i64, .bool], gout := [] }
def cl_l6tTwo10 : List (Nat × Sig) := [(77, sg_l6tPair), (41, sg_l6tAddP), (78, sg_l6tPart10)]
theorem run_l6tTwo10 : run ⟨Try.prog, glb, cl_l6tTwo10⟩ [] Try.f65 sg_l6tTwo10 (Try.f65.body.getD .skip) = tr_l6tTwo10 := by kernel_rfl
theorem om_l6tTwo10 : ΩOK ⟨Try.prog, glb, cl_l6tTwo10⟩ (specsOf Fs_l6tTwo10) := (ΩOK_cons cong_l6tPair Try.call77 (ΩOK_cons cong_l6tAddP Try.call41 (ΩOK_cons cong_l6tPart10 Try.call78 ΩOK_nil)))
theorem con_l6tTwo10 : ConOK Try.prog glb 65 sg_l6tTwo10 F_l6tTwo10.spec := conOK_tree om_l6tTwo10 mixed Try.func65 (by kernel_rfl) run_l6tTwo10

def sg_l6tTwo11 : Sig := { args := [.s (.p (.own 0) 0), .ag [.e (.var 0), .e (.var 1), .e (.var 2), .e (.var 3), .e (.var 4), .e (.var 5), .e (.var 6), .e (.var 7), .e (.var 8), .e (.var 9), .e (.var 10), .e (.var 11)], .s (.e (.int .i64 (1))), .s (.e (.int .i64 (2))), .s (.e (.int .i64 (-1))), .s (.e (.int .i64 (0))), .s (.e (.int .i64 (3))), .s (.e (.bool true))], pre := [⟨[.e (.var 12)], 53⟩], tin := [.int .i64, .int .i64, .int .i64, .int .i64, .int .i64, .int .i64, .int .i64, .int .i64, .int .i64, .int .i64, .int .i64, .int .i64, .bool], gin := [], res := .c (.ag [.e (.var 0), .e (.var 1), .e (.var 2)]), post := [⟨[.e (.var 3)], 53⟩], tout := [.int .i64, .int .i64, .int .i64, .bool], gout := [] }
def cl_l6tTwo11 : List (Nat × Sig) := [(77, sg_l6tPair), (41, sg_l6tAddM), (78, sg_l6tPart11)]
theorem run_l6tTwo11 : run ⟨Try.prog, glb, cl_l6tTwo11⟩ [] Try.f65 sg_l6tTwo11 (Try.f65.body.getD .skip) = tr_l6tTwo11 := by kernel_rfl
theorem om_l6tTwo11 : ΩOK ⟨Try.prog, glb, cl_l6tTwo11⟩ (specsOf Fs_l6tTwo11) := (ΩOK_cons cong_l6tPair Try.call77 (ΩOK_cons cong_l6tAddM Try.call41 (ΩOK_cons cong_l6tPart11 Try.call78 ΩOK_nil)))
theorem con_l6tTwo11 : ConOK Try.prog glb 65 sg_l6tTwo11 F_l6tTwo11.spec := conOK_tree om_l6tTwo11 mixed Try.func65 (by kernel_rfl) run_l6tTwo11

def sg_l6tTwo12 : Sig := { args := [.s (.p (.own 0) 0), .ag [.e (.var 0), .e (.var 1), .e (.var 2), .e (.var 3), .e (.var 4), .e (.var 5), .e (.var 6), .e (.var 7), .e (.var 8), .e (.var 9), .e (.var 10), .e (.var 11)], .s (.e (.int .i64 (0))), .s (.e (.int .i64 (2))), .s (.e (.int .i64 (1))), .s (.e (.int .i64 (1))), .s (.e (.int .i64 (3))), .s (.e (.bool true))], pre := [⟨[.e (.var 12)], 53⟩], tin := [.int .i64, .int .i64, .int .i64, .int .i64, .int .i64, .int .i64, .int .i64, .int .i64, .int .i64, .int .i64, .int .i64, .int .i64, .bool], gin := [], res := .c (.ag [.e (.var 0), .e (.var 1), .e (.var 2)]), post := [⟨[.e (.var 3)], 53⟩], tout := [.int .i64, .int .i64, .int .i64, .bool], gout := [] }
def cl_l6tTwo12 : List (Nat × Sig) := [(77, sg_l6tPair), (41, sg_l6tAddP), (78, sg_l6tPart11)]
theorem run_l6tTwo12 : run ⟨Try.prog, glb, cl_l6tTwo12⟩ [] Try.f65 sg_l6tTwo12 (Try.f65.body.getD .skip) = tr_l6tTwo12 := by kernel_rfl
theorem om_l6tTwo12 : ΩOK ⟨Try.prog, glb, cl_l6tTwo12⟩ (specsOf Fs_l6tTwo12) := (ΩOK_cons cong_l6tPair Try.call77 (ΩOK_cons cong_l6tAddP Try.call41 (ΩOK_cons cong_l6tPart11 Try.call78 ΩOK_nil)))
theorem con_l6tTwo12 : ConOK Try.prog glb 65 sg_l6tTwo12 F_l6tTwo12.spec := conOK_tree om_l6tTwo12 mixed Try.func65 (by kernel_rfl) run_l6tTwo12

def sg_l6tTwo13 : Sig := { args := [.s (.p (.own 0) 0), .ag [.e (.var 0), .e (.var 1), .e (.var 2), .e (.var 3), .e (.var 4), .e (.var 5), .e (.var 6), .e (.var 7), .e (.var 8), .e (.var 9), .e (.var 10), .e (.var 11)], .s (.e (.int .i64 (0))), .s (.e (.int .i64 (2))), .s (.e (.int .i64 (-1))), .s (.e (.int .i64 (1))), .s (.e (.int .i64 (3))), .s (.e (.bool true))], pre := [⟨[.e (.var 12)], 53⟩], tin := [.int .i64, .int .i64, .int .i64, .int .i64, .int .i64, .int .i64, .int .i64, .int .i64, .int .i64, .int .i64, .int .i64, .int .i64, .bool], gin := [], res := .c (.ag [.e (.var 0), .e (.var 1), .e (.var 2)]), post := [⟨[.e (.var 3)], 53⟩], tout := [.int .i64, .int .i64, .int .i64, .bool], gout := [] }
def cl_l6tTwo13 : List (Nat × Sig) := [(77, sg_l6tPair), (41, sg_l6tAddM), (78, sg_l6tPart11)]
theorem run_l6tTwo13 : run ⟨Try.prog, glb, cl_l6tTwo13⟩ [] Try.f65 sg_l6tTwo13 (Try.f65.body.getD .skip) = tr_l6tTwo13 := by kernel_rfl
theorem om_l6tTwo13 : ΩOK ⟨Try.prog, glb, cl_l6tTwo13⟩ (specsOf Fs_l6tTwo13) := (ΩOK_cons cong_l6tPair Try.call77 (ΩOK_cons cong_l6tAddM Try.call41 (ΩOK_cons cong_l6tPart11 Try.call78 ΩOK_nil)))
theorem con_l6tTwo13 : ConOK Try.prog glb 65 sg_l6tTwo13 F_l6tTwo13.spec := conOK_tree om_l6tTwo13 mixed Try.func65 (by kernel_rfl) run_l6tTwo13

def sg_l6tTwo14 : Sig := { args := [.s (.p (.own 0) 0), .ag [.e (.var 0), .e (.var 1), .e (.var 2), .e (.var 3), .e (.var 4), .e (.var 5), .e (.var 6), .e (.var 7), .e (.var 8), .e (.var 9), .e (.var 10), .e (.var 11)], .s (.e (.int .i64 (0))), .s (.e (.int .i64 (3))), .s (.e (.int .i64 (1))), .s (.e (.int .i64 (1))), .s (.e (.int .i64 (2))), .s (.e (.bool true))], pre := [⟨[.e (.var 12)], 53⟩], tin := [.int .i64, .int .i64, .int .i64, .int .i64, .int .i64, .int .i64, .int .i64, .int .i64, .int .i64, .int .i64, .int .i64, .int .i64, .bool], gin := [], res := .c (.ag [.e (.var 0), .e (.var 1), .e (.var 2)]), post := [⟨[.e (.var 3)], 53⟩], tout := [.int .i64, .int .i64, .int .i64, .bool], gout := [] }
def cl_l6tTwo14 : List (Nat × Sig) := [(77, sg_l6tPair), (41, sg_l6tAddP), (78, sg_l6tPart11)]
theorem run_l6tTwo14 : run ⟨Try.prog, glb, cl_l6tTwo14⟩ [] Try.f65 sg_l6tTwo14 (Try.f65.body.getD .skip) = tr_l6tTwo14 := by kernel_rfl
theorem om_l6tTwo14 : ΩOK ⟨Try.prog, glb, cl_l6tTwo14⟩ (specsOf Fs_l6tTwo14) := (ΩOK_cons cong_l6tPair Try.call77 (ΩOK_cons cong_l6tAddP Try.call41 (ΩOK_cons cong_l6tPart11 Try.call78 ΩOK_nil)))
theorem con_l6tTwo14 : ConOK Try.prog glb 65 sg_l6tTwo14 F_l6tTwo14.spec := conOK_tree om_l6tTwo14 mixed Try.func65 (by kernel_rfl) run_l6tTwo14

def sg_l6tTwo15 : Sig := { args := [.s (.p (.own 0) 0), .ag [.e (.var 0), .e (.var 1), .e (.var 2), .e (.var 3), .e (.var 4), .e (.var 5), .e (.var 6), .e (.var 7), .e (.var 8), .e (.var 9), .e (.var 10), .e (.var 11)], .s (.e (.int .i64 (0))), .s (.e (.int .i64 (3))), .s (.e (.int .i64 (-1))), .s (.e (.int .i64 (1))), .s (.e (.int .i64 (2))), .s (.e (.bool false))], pre := [⟨[.e (.var 12)], 53⟩], tin := [.int .i64, .int .i64, .int .i64, .int .i64, .int .i64, .int .i64, .int .i64, .int .i64, .int .i64, .int .i64, .int .i64, .int .i64, .bool], gin := [], res := .c (.ag [.e (.var 0), .e (.var 1), .e (.var 2)]), post := [⟨[.e (.var 3)], 53⟩], tout := [.int .i64, .int .i64, .int .i64, .bool], gout := [] }
def cl_l6tTwo15 : List (Nat × Sig) := [(77, sg_l6tPair), (41, sg_l6tAddM), (78, sg_l6tPart10)]
theorem run_l6tTwo15 : run ⟨Try.prog, glb, cl_l6tTwo15⟩ [] Try.f65 sg_l6tTwo15 (Try.f65.body.getD .skip) = tr_l6tTwo15 := by kernel_rfl
theorem om_l6tTwo15 : ΩOK ⟨Try.prog, glb, cl_l6tTwo15⟩ (specsOf Fs_l6tTwo15) := (ΩOK_cons cong_l6tPair Try.call77 (ΩOK_cons cong_l6tAddM Try.call41 (ΩOK_cons cong_l6tPart10 Try.call78 ΩOK_nil)))
theorem con_l6tTwo15 : ConOK Try.prog glb 65 sg_l6tTwo15 F_l6tTwo15.spec := conOK_tree om_l6tTwo15 mixed Try.func65 (by kernel_rfl) run_l6tTwo15

def sg_sTableOf : Sig := { args := [.ag [.e (.var 0), .e (.var 1), .e (.var 2), .e (.var 3), .e (.var 4), .e (.var 5), .e (.var 6), .e (.var 7), .e (.var 8), .e (.var 9), .e (.var 10), .e (.var 11)]], pre := [], tin := [.int .i64, .int .i64, .int .i64, .int .i64, .int .i64, .int .i64, .int .i64, .int .i64, .int .i64, .int .i64, .int .i64, .int .i64], gin := [], res := .tu [.ag [.e (.var 0), .e (.var 1), .e (.var 2), .e (.var 3), .e (.var 4), .e (.var 5), .e (.var 6), .e (.var 7), .e (.var 8), .e (.var 9), .e (.var 10), .e (.var 11), .e (.var 12), .e (.var 13), .e (.var 14), .e (.var 15), .e (.var 16), .e (.var 17), .e (.var 18), .e (.var 19), .e (.var 20), .e (.var 21), .e (.var 22), .e (.var 23), .e (.var 24), .e (.var 25), .e (.var 26), .e (.var 27), .e (.var 28), .e (.var 29), .e (.var 30), .e (.var 31), .e (.var 32), .e (.var 33), .e (.var 34), .e (.var 35), .e (.var 36), .e (.var 37), .e (.var 38), .e (.var 39), .e (.var 40), .e (.var 41), .e (.var 42), .e (.var 43), .e (.var 44), .e (.var 45), .e (.var 46), .e (.var 47)], .s (.e (.var 48))], post := [], tout := [.int .i64, .int .i64, .int .i64, .int .i64, .int .i64, .int .i64, .int .i64, .int .i64, .int .i64, .int .i64, .int .i64, .int .i64, .int .i64, .int .i64, .int .i64, .int .i64, .int .i64, .int .i64, .int .i64, .int .i64, .int .i64, .int .i64, .int .i64, .int .i64, .int .i64, .int .i64, .int .i64, .int .i64, .int .i64, .int .i64, .int .i64, .int .i64, .int .i64, .int .i64, .int .i64, .int .i64, .int .i64, .int .i64, .int .i64, .int .i64, .int .i64, .int .i64, .int .i64, .int .i64, .int .i64, .int .i64, .int .i64, .int .i64, .bool], gout := [] }
def cl_sTableOf : List (Nat × Sig) := [(63, sg_sMatValid), (64, sg_l6tPowersA), (64, sg_l6tPowersB), (64, sg_l6tPowersC), (64, sg_l6tPowersD), (65, sg_l6tTwo2), (65, sg_l6tTwo3), (65, sg_l6tTwo6), (65, sg_l6tTwo7), (65, sg_l6tTwo8), (65, sg_l6tTwo9), (65, sg_l6tTwo10), (65, sg_l6tTwo11), (65, sg_l6tTwo12), (65, sg_l6tTwo13), (65, sg_l6tTwo14), (65, sg_l6tTwo15)]
theorem run_sTableOf : run ⟨Try.prog, glb, cl_sTableOf⟩ [] Try.f47 sg_sTableOf (Try.f47.body.getD .skip) = tr_sTableOf := by kernel_rfl
theorem om_sTableOf : ΩOK ⟨Try.prog, glb, cl_sTableOf⟩ (specsOf Fs_sTableOf) := (ΩOK_cons cong_sMatValid Try.call63 (ΩOK_cons con_l6tPowersA Try.call64 (ΩOK_cons con_l6tPowersB Try.call64 (ΩOK_cons con_l6tPowersC Try.call64 (ΩOK_cons con_l6tPowersD Try.call64 (ΩOK_cons con_l6tTwo2 Try.call65 (ΩOK_cons con_l6tTwo3 Try.call65 (ΩOK_cons con_l6tTwo6 Try.call65 (ΩOK_cons con_l6tTwo7 Try.call65 (ΩOK_cons con_l6tTwo8 Try.call65 (ΩOK_cons con_l6tTwo9 Try.call65 (ΩOK_cons con_l6tTwo10 Try.call65 (ΩOK_cons con_l6tTwo11 Try.call65 (ΩOK_cons con_l6tTwo12 Try.call65 (ΩOK_cons con_l6tTwo13 Try.call65 (ΩOK_cons con_l6tTwo14 Try.call65 (ΩOK_cons con_l6tTwo15 Try.call65 ΩOK_nil)))))))))))))))))
theorem con_sTableOf : ConOK Try.prog glb 47 sg_sTableOf F_sTableOf.spec := conOK_tree om_sTableOf mixed Try.func47 (by kernel_rfl) run_sTableOf
theorem cong_sTableOf : ConOK Try.prog glb 47 sg_sTableOf G_sTableOf.spec := con_sTableOf.as as_sTableOf

def sg_l5Four : Sig := { args := [.ag [.e (.var 0), .e (.var 1), .e (.var 2)], .ag [.e (.var 3), .e (.var 4), .e (.var 5)], .ag [.e (.var 6), .e (.var 7), .e (.var 8)], .ag [.e (.var 9), .e (.var 10), .e (.var 11)], .s (.e (.var 12))], pre := [], tin := [.int .i64, .int .i64, .int .i64, .int .i64, .int .i64, .int .i64, .int .i64, .int .i64, .int .i64, .int .i64, .int .i64, .int .i64, .bool], gin := [], res := .tu [.ag [.e (.var 0), .e (.var 1), .e (.var 2), .e (.var 3), .e (.var 4), .e (.var 5), .e (.var 6), .e (.var 7), .e (.var 8), .e (.var 9), .e (.var 10), .e (.var 11)], .s (.e (.var 12))], post := [], tout := [.int .i64, .int .i64, .int .i64, .int .i64, .int .i64, .int .i64, .int .i64, .int .i64, .int .i64, .int .i64, .int .i64, .int .i64, .bool], gout := [] }
def cl_l5Four : List (Nat × Sig) := []
theorem run_l5Four : run ⟨Try.prog, glb, cl_l5Four⟩ [] Try.f80 sg_l5Four (Try.f80.body.getD .skip) = tr_l5Four := by kernel_rfl
theorem om_l5Four : ΩOK ⟨Try.prog, glb, cl_l5Four⟩ (specsOf Fs_l5Four) := ΩOK_nil
theorem con_l5Four : ConOK Try.prog glb 80 sg_l5Four F_l5Four.spec := conOK_tree om_l5Four mixed Try.func80 (by kernel_rfl) run_l5Four
theorem cong_l5Four : ConOK Try.prog glb 80 sg_l5Four G_l5Four.spec := con_l5Four.as as_l5Four

def sg_sMatTimes : Sig := { args := [.ag [.e (.var 0), .e (.var 1), .e (.var 2), .e (.var 3), .e (.var 4), .e (.var 5), .e (.var 6), .e (.var 7), .e (.var 8), .e (.var 9), .e (.var 10), .e (.var 11)], .ag [.e (.var 12), .e (.var 13), .e (.var 14), .e (.var 15), .e (.var 16), .e (.var 17), .e (.var 18), .e (.var 19), .e (.var 20), .e (.var 21), .e (.var 22), .e (.var 23)]], pre := [], tin := [.int .i64, .int .i64, .int .i64, .int .i64, .int .i64, .int .i64, .int .i64, .int .i64, .int .i64, .int .i64, .int .i64, .int .i64, .int .i64, .int .i64, .int .i64, .int .i64, .int .i64, .int .i64, .int .i64, .int .i64, .int .i64, .int .i64, .int .i64, .int .i64], gin := [], res := .tu [.ag [.e (.var 0), .e (.var 1), .e (.var 2), .e (.var 3), .e (.var 4), .e (.var 5), .e (.var 6), .e (.var 7), .e (.var 8), .e (.var 9), .e (.var 10), .e (.var 11)], .s (.e (.var 12))], post := [], tout := [.int .i64, .int .i64, .int .i64, .int .i64, .int .i64, .int .i64, .int .i64, .int .i64, .int .i64, .int .i64, .int .i64, .int .i64, .bool], gout := [] }
def cl_sMatTimes : List (Nat × Sig) := [(63, sg_sMatValid), (86, sg_l3Inner), (80, sg_l5Four)]
theorem run_sMatTimes : run ⟨Try.prog, glb, cl_sMatTimes⟩ [] Try.f82 sg_sMatTimes (Try.f82.body.getD .skip) = tr_sMatTimes := by kernel_rfl
theorem om_sMatTimes : ΩOK ⟨Try.prog, glb, cl_sMatTimes⟩ (specsOf Fs_sMatTimes) := (ΩOK_cons cong_sMatValid Try.call63 (ΩOK_cons cong_l3Inner Try.call86 (ΩOK_cons cong_l5Four Try.call80 ΩOK_nil)))
theorem con_sMatTimes : ConOK Try.prog glb 82 sg_sMatTimes F_sMatTimes.spec := conOK_tree om_sMatTimes mixed Try.func82 (by kernel_rfl) run_sMatTimes
theorem cong_sMatTimes : ConOK Try.prog glb 82 sg_sMatTimes G_sMatTimes.spec := con_sMatTimes.as as_sMatTimes

def sg_l5One : Sig := { args := [.ag [.e (.var 0), .e (.var 1), .e (.var 2)], .ag [.e (.var 3), .e (.var 4), .e (.var 5)]], pre := [], tin := [.int .i64, .int .i64, .int .i64, .int .i64, .int .i64, .int .i64], gin := [], res := .c (.ag [.e (.var 0), .e (.var 1), .e (.var 2), .e (.var 3), .e (.var 4), .e (.var 5), .e (.var 6), .e (.var 7), .e (.var 8), .e (.var 9), .e (.var 10), .e (.var 11)]), post := [], tout := [.int .i64, .int .i64, .int .i64, .int .i64, .int .i64, .int .i64, .int .i64, .int .i64, .int .i64, .int .i64, .int .i64, .int .i64], gout := [] }
def cl_l5One : List (Nat × Sig) := []
theorem run_l5One : run ⟨Try.prog, glb, cl_l5One⟩ [] Try.f83 sg_l5One (Try.f83.body.getD .skip) = tr_l5One := by kernel_rfl
theorem om_l5One : ΩOK ⟨Try.prog, glb, cl_l5One⟩ (specsOf Fs_l5One) := ΩOK_nil
theorem con_l5One : ConOK Try.prog glb 83 sg_l5One F_l5One.spec := conOK_tree om_l5One mixed Try.func83 (by kernel_rfl) run_l5One

def sg_sFracLess : Sig := { args := [.ag [.e (.var 0), .e (.var 1), .e (.var 2)], .ag [.e (.var 3), .e (.var 4), .e (.var 5)]], pre := [], tin := [.int .i64, .int .i64, .int .i64, .int .i64, .int .i64, .int .i64], gin := [], res := .tu [.ag [.e (.var 0), .e (.var 1), .e (.var 2)], .s (.e (.var 3))], post := [], tout := [.int .i64, .int .i64, .int .i64, .bool], gout := [] }
def cl_sFracLess : List (Nat × Sig) := [(59, sg_l2SumM)]
theorem run_sFracLess : run ⟨Try.prog, glb, cl_sFracLess⟩ [] Try.f75 sg_sFracLess (Try.f75.body.getD .skip) = tr_sFracLess := by kernel_rfl
theorem om_sFracLess : ΩOK ⟨Try.prog, glb, cl_sFracLess⟩ (specsOf Fs_sFracLess) := (ΩOK_cons cong_l2SumM Try.call59 ΩOK_nil)
theorem con_sFracLess : ConOK Try.prog glb 75 sg_sFracLess F_sFracLess.spec := conOK_tree om_sFracLess mixed Try.func75 (by kernel_rfl) run_sFracLess
theorem cong_sFracLess : ConOK Try.prog glb 75 sg_sFracLess G_sFracLess.spec := con_sFracLess.as as_sFracLess

def sg_sFracPower : Sig := { args := [.ag [.e (.var 0), .e (.var 1), .e (.var 2)]], pre := [], tin := [.int .i64, .int .i64, .int .i64], gin := [], res := .tu [.ag [.e (.var 0), .e (.var 1), .e (.var 2)], .s (.e (.var 3))], post := [], tout := [.int .i64, .int .i64, .int .i64, .bool], gout := [] }
def cl_sFracPower : List (Nat × Sig) := [(73, sg_sFracMirror), (40, sg_sFracTimes)]
theorem run_sFracPower : run ⟨Try.prog, glb, cl_sFracPower⟩ [] Try.f72 sg_sFracPower (Try.f72.body.getD .skip) = tr_sFracPower := by kernel_rfl
theorem om_sFracPower : ΩOK ⟨Try.prog, glb, cl_sFracPower⟩ (specsOf Fs_sFracPower) := (ΩOK_cons cong_sFracMirror Try.call73 (ΩOK_cons cong_sFracTimes Try.call40 ΩOK_nil))
theorem con_sFracPower : ConOK Try.prog glb 72 sg_sFracPower F_sFracPower.spec := conOK_tree om_sFracPower mixed Try.func72 (by kernel_rfl) run_sFracPower
theorem cong_sFracPower : ConOK Try.prog glb 72 sg_sFracPower G_sFracPower.spec := con_sFracPower.as as_sFracPower

def sg_pick : Sig := { args := [.s (.p (.own 0) 0), .s (.e (.var 0))], pre := [⟨[.e (.var 1), .e (.var 2)], 73⟩], tin := [.int .i64, .sl, .int .i64, .row .u8 1], gin := [(1, 3, 1)], res := .c (.s (.e (.var 0))), post := [⟨[.e (.var 1), .e (.var 2)], 73⟩], tout := [.int .i64, .sl, .int .i64], gout := [] }
def cl_pick : List (Nat × Sig) := []
theorem run_pick : run ⟨Try.prog, glb, cl_pick⟩ [] Try.f49 sg_pick (Try.f49.body.getD .skip) = tr_pick := by kernel_rfl
theorem om_pick : ΩOK ⟨Try.prog, glb, cl_pick⟩ (specsOf Fs_pick) := ΩOK_nil
theorem con_pick : ConOK Try.prog glb 49 sg_pick F_pick.spec := conOK_tree om_pick mixed Try.func49 (by kernel_rfl) run_pick

def sg_sMatAdjoint : Sig := { args := [.ag [.e (.var 0), .e (.var 1), .e (.var 2), .e (.var 3), .e (.var 4), .e (.var 5), .e (.var 6), .e (.var 7), .e (.var 8), .e (.var 9), .e (.var 10), .e (.var 11)]], pre := [], tin := [.int .i64, .int .i64, .int .i64, .int .i64, .int .i64, .int .i64, .int .i64, .int .i64, .int .i64, .int .i64, .int .i64, .int .i64], gin := [], res := .tu [.ag [.e (.var 0), .e (.var 1), .e (.var 2), .e (.var 3), .e (.var 4), .e (.var 5), .e (.var 6), .e (.var 7), .e (.var 8), .e (.var 9), .e (.var 10), .e (.var 11)], .s (.e (.var 12))], post := [], tout := [.int .i64, .int .i64, .int .i64, .int .i64, .int .i64, .int .i64, .int .i64, .int .i64, .int .i64, .int .i64, .int .i64, .int .i64, .bool], gout := [] }
def cl_sMatAdjoint : List (Nat × Sig) := [(73, sg_sFracMirror), (80, sg_l5Four)]
theorem run_sMatAdjoint : run ⟨Try.prog, glb, cl_sMatAdjoint⟩ [] Try.f81 sg_sMatAdjoint (Try.f81.body.getD .skip) = tr_sMatAdjoint := by kernel_rfl
theorem om_sMatAdjoint : ΩOK ⟨Try.prog, glb, cl_sMatAdjoint⟩ (specsOf Fs_sMatAdjoint) := (ΩOK_cons cong_sFracMirror Try.call73 (ΩOK_cons cong_l5Four Try.call80 ΩOK_nil))
theorem con_sMatAdjoint : ConOK Try.prog glb 81 sg_sMatAdjoint F_sMatAdjoint.spec := conOK_tree om_sMatAdjoint mixed Try.func81 (by kernel_rfl) run_sMatAdjoint

def sg_sMatRotator : Sig := { args := [.s (.e (.var 0)), .s (.e (.var 1))], pre := [], tin := [.int .i64, .int .i64], gin := [], res := .tu [.ag [.e (.var 0), .e (.var 1), .e (.var 2), .e (.var 3), .e (.var 4), .e (.var 5), .e (.var 6), .e (.var 7), .e (.var 8), .e (.var 9), .e (.var 10), .e (.var 11)], .s (.e (.var 12))], post := [], tout := [.int .i64, .int .i64, .int .i64, .int .i64, .int .i64, .int .i64, .int .i64, .int .i64, .int .i64, .int .i64, .int .i64, .int .i64, .bool], gout := [] }
def cl_sMatRotator : List (Nat × Sig) := [(79, sg_l5Direction), (80, sg_l5Four)]
theorem run_sMatRotator : run ⟨Try.prog, glb, cl_sMatRotator⟩ [] Try.f67 sg_sMatRotator (Try.f67.body.getD .skip) = tr_sMatRotator := by kernel_rfl
theorem om_sMatRotator : ΩOK ⟨Try.prog, glb, cl_sMatRotator⟩ (specsOf Fs_sMatRotator) := (ΩOK_cons cong_l5Direction Try.call79 (ΩOK_cons cong_l5Four Try.call80 ΩOK_nil))
theorem con_sMatRotator : ConOK Try.prog glb 67 sg_sMatRotator F_sMatRotator.spec := conOK_tree om_sMatRotator mixed Try.func67 (by kernel_rfl) run_sMatRotator

def sg_l5PhaseK : Sig := { args := [.s (.e (.var 0))], pre := [], tin := [.int .i64], gin := [], res := .c (.ag [.e (.var 0), .e (.var 1), .e (.var 2)]), post := [], tout := [.int .i64, .int .i64, .int .i64], gout := [] }
def cl_l5PhaseK : List (Nat × Sig) := []
theorem run_l5PhaseK : run ⟨Try.prog, glb, cl_l5PhaseK⟩ [] Try.f84 sg_l5PhaseK (Try.f84.body.getD .skip) = tr_l5PhaseK := by kernel_rfl
theorem om_l5PhaseK : ΩOK ⟨Try.prog, glb, cl_l5PhaseK⟩ (specsOf Fs_l5PhaseK) := ΩOK_nil
theorem con_l5PhaseK : ConOK Try.prog glb 84 sg_l5PhaseK F_l5PhaseK.spec := conOK_tree om_l5PhaseK mixed Try.func84 (by kernel_rfl) run_l5PhaseK

def sg_sMatPlate : Sig := { args := [.s (.e (.var 0)), .s (.e (.var 1)), .s (.e (.var 2))], pre := [], tin := [.int .i64, .int .i64, .int .i64], gin := [], res := .tu [.ag [.e (.var 0), .e (.var 1), .e (.var 2), .e (.var 3), .e (.var 4), .e (.var 5), .e (.var 6), .e (.var 7), .e (.var 8), .e (.var 9), .e (.var 10), .e (.var 11)], .s (.e (.var 12))], post := [], tout := [.int .i64, .int .i64, .int .i64, .int .i64, .int .i64, .int .i64, .int .i64, .int .i64, .int .i64, .int .i64, .int .i64, .int .i64, .bool], gout := [] }
def cl_sMatPlate : List (Nat × Sig) := [(67, sg_sMatRotator), (56, sg_l6In), (81, sg_sMatAdjoint), (84, sg_l5PhaseK), (83, sg_l5One), (82, sg_sMatTimes)]
theorem run_sMatPlate : run ⟨Try.prog, glb, cl_sMatPlate⟩ [] Try.f68 sg_sMatPlate (Try.f68.body.getD .skip) = tr_sMatPlate := by kernel_rfl
theorem om_sMatPlate : ΩOK ⟨Try.prog, glb, cl_sMatPlate⟩ (specsOf Fs_sMatPlate) := (ΩOK_cons con_sMatRotator Try.call67 (ΩOK_cons cong_l6In Try.call56 (ΩOK_cons con_sMatAdjoint Try.call81 (ΩOK_cons con_l5PhaseK Try.call84 (ΩOK_cons con_l5One Try.call83 (ΩOK_cons cong_sMatTimes Try.call82 ΩOK_nil))))))
theorem con_sMatPlate : ConOK Try.prog glb 68 sg_sMatPlate F_sMatPlate.spec := conOK_tree om_sMatPlate mixed Try.func68 (by kernel_rfl) run_sMatPlate

def sg_sMatFilter : Sig := { args := [.s (.e (.var 0)), .s (.e (.var 1))], pre := [], tin := [.int .i64, .int .i64], gin := [], res := .tu [.ag [.e (.var 0), .e (.var 1), .e (.var 2), .e (.var 3), .e (.var 4), .e (.var 5), .e (.var 6), .e (.var 7), .e (.var 8), .e (.var 9), .e (.var 10), .e (.var 11)], .s (.e (.var 12))], post := [], tout := [.int .i64, .int .i64, .int .i64, .int .i64, .int .i64, .int .i64, .int .i64, .int .i64, .int .i64, .int .i64, .int .i64, .int .i64, .bool], gout := [] }
def cl_sMatFilter : List (Nat × Sig) := [(79, sg_l5Direction), (40, sg_sFracTimes), (80, sg_l5Four)]
theorem run_sMatFilter : run ⟨Try.prog, glb, cl_sMatFilter⟩ [] Try.f69 sg_sMatFilter (Try.f69.body.getD .skip) = tr_sMatFilter := by kernel_rfl
theorem om_sMatFilter : ΩOK ⟨Try.prog, glb, cl_sMatFilter⟩ (specsOf Fs_sMatFilter) := (ΩOK_cons cong_l5Direction Try.call79 (ΩOK_cons cong_sFracTimes Try.call40 (ΩOK_cons cong_l5Four Try.call80 ΩOK_nil)))
theorem con_sMatFilter : ConOK Try.prog glb 69 sg_sMatFilter F_sMatFilter.spec := conOK_tree om_sMatFilter mixed Try.func69 (by kernel_rfl) run_sMatFilter

def sg_l6tDiag : Sig := { args := [.ag [.e (.var 0), .e (.var 1), .e (.var 2)]], pre := [], tin := [.int .i64, .int .i64, .int .i64], gin := [], res := .c (.ag [.e (.var 0), .e (.var 1), .e (.var 2), .e (.var 3), .e (.var 4), .e (.var 5), .e (.var 6), .e (.var 7), .e (.var 8), .e (.var 9), .e (.var 10), .e (.var 11), .e (.var 12), .e (.var 13), .e (.var 14), .e (.var 15), .e (.var 16), .e (.var 17), .e (.var 18), .e (.var 19), .e (.var 20), .e (.var 21), .e (.var 22), .e (.var 23), .e (.var 24), .e (.var 25), .e (.var 26), .e (.var 27), .e (.var 28), .e (.var 29), .e (.var 30), .e (.var 31), .e (.var 32), .e (.var 33), .e (.var 34), .e (.var 35), .e (.var 36), .e (.var 37), .e (.var 38), .e (.var 39), .e (.var 40), .e (.var 41), .e (.var 42), .e (.var 43), .e (.var 44), .e (.var 45), .e (.var 46), .e (.var 47)]), post := [], tout := [.int .i64, .int .i64, .int .i64, .int .i64, .int .i64, .int .i64, .int .i64, .int .i64, .int .i64, .int .i64, .int .i64, .int .i64, .int .i64, .int .i64, .int .i64, .int .i64, .int .i64, .int .i64, .int .i64, .int .i64, .int .i64, .int .i64, .int .i64, .int .i64, .int .i64, .int .i64, .int .i64, .int .i64, .int .i64, .int .i64, .int .i64, .int .i64, .int .i64, .int .i64, .int .i64, .int .i64, .int .i64, .int .i64, .int .i64, .int .i64, .int .i64, .int .i64, .int .i64, .int .i64, .int .i64, .int .i64, .int .i64, .int .i64], gout := [] }
def cl_l6tDiag : List (Nat × Sig) := []
theorem run_l6tDiag : run ⟨Try.prog, glb, cl_l6tDiag⟩ [] Try.f71 sg_l6tDiag (Try.f71.body.getD .skip) = tr_l6tDiag := by kernel_rfl
theorem om_l6tDiag : ΩOK ⟨Try.prog, glb, cl_l6tDiag⟩ (specsOf Fs_l6tDiag) := ΩOK_nil
theorem con_l6tDiag : ConOK Try.prog glb 71 sg_l6tDiag F_l6tDiag.spec := conOK_tree om_l6tDiag mixed Try.func71 (by kernel_rfl) run_l6tDiag

def sg_l6tUnit : Sig := { args := [], pre := [], tin := [], gin := [], res := .c (.ag [.e (.var 0), .e (.var 1), .e (.var 2), .e (.var 3), .e (.var 4), .e (.var 5), .e (.var 6), .e (.var 7), .e (.var 8), .e (.var 9), .e (.var 10), .e (.var 11), .e (.var 12), .e (.var 13), .e (.var 14), .e (.var 15), .e (.var 16), .e (.var 17), .e (.var 18), .e (.var 19), .e (.var 20), .e (.var 21), .e (.var 22), .e (.var 23), .e (.var 24), .e (.var 25), .e (.var 26), .e (.var 27), .e (.var 28), .e (.var 29), .e (.var 30), .e (.var 31), .e (.var 32), .e (.var 33), .e (.var 34), .e (.var 35), .e (.var 36), .e (.var 37), .e (.var 38), .e (.var 39), .e (.var 40), .e (.var 41), .e (.var 42), .e (.var 43), .e (.var 44), .e (.var 45), .e (.var 46), .e (.var 47)]), post := [], tout := [.int .i64, .int .i64, .int .i64, .int .i64, .int .i64, .int .i64, .int .i64, .int .i64, .int .i64, .int .i64, .int .i64, .int .i64, .int .i64, .int .i64, .int .i64, .int .i64, .int .i64, .int .i64, .int .i64, .int .i64, .int .i64, .int .i64, .int .i64, .int .i64, .int .i64, .int .i64, .int .i64, .int .i64, .int .i64, .int .i64, .int .i64, .int .i64, .int .i64, .int .i64, .int .i64, .int .i64, .int .i64, .int .i64, .int .i64, .int .i64, .int .i64, .int .i64, .int .i64, .int .i64, .int .i64, .int .i64, .int .i64, .int .i64], gout := [] }
def cl_l6tUnit : List (Nat × Sig) := [(71, sg_l6tDiag)]
theorem run_l6tUnit : run ⟨Try.prog, glb, cl_l6tUnit⟩ [] Try.f50 sg_l6tUnit (Try.f50.body.getD .skip) = tr_l6tUnit := by kernel_rfl
theorem om_l6tUnit : ΩOK ⟨Try.prog, glb, cl_l6tUnit⟩ (specsOf Fs_l6tUnit) := (ΩOK_cons con_l6tDiag Try.call71 ΩOK_nil)
theorem con_l6tUnit : ConOK Try.prog glb 50 sg_l6tUnit F_l6tUnit.spec := conOK_tree om_l6tUnit mixed Try.func50 (by kernel_rfl) run_l6tUnit

def sg_pickC : Sig := { args := [.s (.p (.own 0) 0), .s (.e (.var 0))], pre := [⟨[.e (.var 1), .e (.var 2)], 73⟩], tin := [.int .i64, .sl, .int .i64], gin := [], res := .c (.s (.e (.var 0))), post := [⟨[.e (.var 1), .e (.var 2)], 73⟩], tout := [.int .i64, .sl, .int .i64], gout := [] }
theorem con_pickC {cb : CodeB} (hk : CodeOk cb) (hG : Known cb (glb ++ cb.tail)) : ConOK Try.prog (glb ++ cb.tail) 49 sg_pickC (G_pick cb).spec := conOK_ghost (t := 73) hk hG con_pick.more (ghost_pick hk)


def sg_openC : Sig := { args := [.s (.e (.var 0))], pre := [], tin := [.sl], gin := [], res := .c (.s (.p (.own 0) 0)), post := [⟨[.e (.var 0), .e (.var 1)], 73⟩], tout := [.sl, .int .i64], gout := [] }
set_option maxHeartbeats 800000 in
set_option maxRecDepth 1000000 in
theorem open_short (a : Option Addr) (len cap : Nat) (w : World) (hl : len ≤ 2000) :
    Calls Try.prog 31 #[.slice a len cap] w fun e w' => e = .returned (.pointer (some ⟨w.heap.size, 0, none⟩)) ∧ w' = w.alloc (.cells #[.slice a len cap, .int .i64 0] 73) := by
  go_enter Try.func31, Try.ntmps31
  go_wp2
  go_ret
  exact ⟨rfl, rfl⟩
set_option maxHeartbeats 800000 in
set_option maxRecDepth 1000000 in
theorem open_long (a : Addr) (len cap : Nat) (w : World) (hl : ¬ len ≤ 2000) (hc : len ≤ cap) (hm : len ≤ 1048576) :
    Calls Try.prog 31 #[.slice (some a) len cap] w fun e w' => e = .returned (.pointer (some ⟨w.heap.size, 0, none⟩)) ∧ w' = w.alloc (.cells #[.slice (some a) 2000 cap, .int .i64 0] 73) := by
  go_enter Try.func31, Try.ntmps31
  go_wp2
  go_ret
  exact ⟨rfl, rfl⟩
theorem con_openC {cb : CodeB} (_ : CodeOk cb) (_ : Known cb (glb ++ cb.tail)) : ConOK Try.prog (glb ++ cb.tail) 31 sg_openC (G_open cb).spec := conOK_open (t := 73) open_short open_long


def sg_l91Frac : Sig := { args := [.s (.p (.own 0) 0)], pre := [⟨[.e (.var 0), .e (.var 1)], 73⟩], tin := [.sl, .int .i64], gin := [], res := .c (.ag [.e (.var 0), .e (.var 1), .e (.var 2)]), post := [⟨[.e (.var 3), .e (.var 4)], 73⟩], tout := [.int .i64, .int .i64, .int .i64, .sl, .int .i64], gout := [] }
def cl_l91Frac : List (Nat × Sig) := [(49, sg_pickC), (58, sg_l2Low)]
theorem run_l91Frac : (fun H : List (Nat × List Sc) => run ⟨Try.prog, glb ++ H, cl_l91Frac⟩ [] Try.f70 sg_l91Frac (Try.f70.body.getD .skip)) = fun _ => tr_l91Frac := by kernel_rfl
theorem om_l91Frac {cb : CodeB} (hk : CodeOk cb) (hG : Known cb (glb ++ cb.tail)) : ΩOK ⟨Try.prog, glb ++ cb.tail, cl_l91Frac⟩ (specsOf (Fs_l91Frac cb)) := (ΩOK_cons (con_pickC hk hG) Try.call49 (ΩOK_cons cong_l2Low.more Try.call58 ΩOK_nil))
theorem con_l91Frac {cb : CodeB} (hk : CodeOk cb) (hG : Known cb (glb ++ cb.tail)) : ConOK Try.prog (glb ++ cb.tail) 70 sg_l91Frac (F_l91Frac cb).spec := conOK_tree (om_l91Frac hk hG) mixed Try.func70 (by kernel_rfl) (congrFun run_l91Frac cb.tail)

def sg_l91Real : Sig := { args := [.s (.p (.own 0) 0)], pre := [⟨[.e (.var 0), .e (.var 1)], 73⟩], tin := [.sl, .int .i64], gin := [], res := .c (.ag [.e (.var 0), .e (.var 1), .e (.var 2)]), post := [⟨[.e (.var 3), .e (.var 4)], 73⟩], tout := [.int .i64, .int .i64, .int .i64, .sl, .int .i64], gout := [] }
def cl_l91Real : List (Nat × Sig) := [(49, sg_pickC), (70, sg_l91Frac), (58, sg_l2Low)]
theorem run_l91Real : (fun H : List (Nat × List Sc) => run ⟨Try.prog, glb ++ H, cl_l91Real⟩ [] Try.f51 sg_l91Real (Try.f51.body.getD .skip)) = fun _ => tr_l91Real := by kernel_rfl
theorem om_l91Real {cb : CodeB} (hk : CodeOk cb) (hG : Known cb (glb ++ cb.tail)) : ΩOK ⟨Try.prog, glb ++ cb.tail, cl_l91Real⟩ (specsOf (Fs_l91Real cb)) := (ΩOK_cons (con_pickC hk hG) Try.call49 (ΩOK_cons (con_l91Frac hk hG) Try.call70 (ΩOK_cons cong_l2Low.more Try.call58 ΩOK_nil)))
theorem con_l91Real {cb : CodeB} (hk : CodeOk cb) (hG : Known cb (glb ++ cb.tail)) : ConOK Try.prog (glb ++ cb.tail) 51 sg_l91Real (F_l91Real cb).spec := conOK_tree (om_l91Real hk hG) mixed Try.func51 (by kernel_rfl) (congrFun run_l91Real cb.tail)

def sg_l91Direction : Sig := { args := [.s (.p (.own 0) 0)], pre := [⟨[.e (.var 0), .e (.var 1)], 73⟩], tin := [.sl, .int .i64], gin := [], res := .tu [.s (.e (.var 0)), .s (.e (.var 1))], post := [⟨[.e (.var 2), .e (.var 3)], 73⟩], tout := [.int .i64, .int .i64, .sl, .int .i64], gout := [] }
def cl_l91Direction : List (Nat × Sig) := [(49, sg_pickC)]
theorem run_l91Direction : (fun H : List (Nat × List Sc) => run ⟨Try.prog, glb ++ H, cl_l91Direction⟩ [] Try.f66 sg_l91Direction (Try.f66.body.getD .skip)) = fun _ => tr_l91Direction := by kernel_rfl
theorem om_l91Direction {cb : CodeB} (hk : CodeOk cb) (hG : Known cb (glb ++ cb.tail)) : ΩOK ⟨Try.prog, glb ++ cb.tail, cl_l91Direction⟩ (specsOf (Fs_l91Direction cb)) := (ΩOK_cons (con_pickC hk hG) Try.call49 ΩOK_nil)
theorem con_l91Direction {cb : CodeB} (hk : CodeOk cb) (hG : Known cb (glb ++ cb.tail)) : ConOK Try.prog (glb ++ cb.tail) 66 sg_l91Direction (F_l91Direction cb).spec := conOK_tree (om_l91Direction hk hG) mixed Try.func66 (by kernel_rfl) (congrFun run_l91Direction cb.tail)

def sg_l91Mat : Sig := { args := [.s (.p (.own 0) 0)], pre := [⟨[.e (.var 0), .e (.var 1)], 73⟩], tin := [.sl, .int .i64], gin := [], res := .c (.ag [.e (.var 0), .e (.var 1), .e (.var 2), .e (.var 3), .e (.var 4), .e (.var 5), .e (.var 6), .e (.var 7), .e (.var 8), .e (.var 9), .e (.var 10), .e (.var 11)]), post := [⟨[.e (.var 12), .e (.var 13)], 73⟩], tout := [.int .i64, .int .i64, .int .i64, .int .i64, .int .i64, .int .i64, .int .i64, .int .i64, .int .i64, .int .i64, .int .i64, .int .i64, .sl, .int .i64], gout := [] }
def cl_l91Mat : List (Nat × Sig) := [(49, sg_pickC), (66, sg_l91Direction), (67, sg_sMatRotator), (68, sg_sMatPlate), (69, sg_sMatFilter), (70, sg_l91Frac)]
theorem run_l91Mat : (fun H : List (Nat × List Sc) => run ⟨Try.prog, glb ++ H, cl_l91Mat⟩ [] Try.f48 sg_l91Mat (Try.f48.body.getD .skip)) = fun _ => tr_l91Mat := by kernel_rfl
theorem om_l91Mat {cb : CodeB} (hk : CodeOk cb) (hG : Known cb (glb ++ cb.tail)) : ΩOK ⟨Try.prog, glb ++ cb.tail, cl_l91Mat⟩ (specsOf (Fs_l91Mat cb)) := (ΩOK_cons (con_pickC hk hG) Try.call49 (ΩOK_cons (con_l91Direction hk hG) Try.call66 (ΩOK_cons con_sMatRotator.more Try.call67 (ΩOK_cons con_sMatPlate.more Try.call68 (ΩOK_cons con_sMatFilter.more Try.call69 (ΩOK_cons (con_l91Frac hk hG) Try.call70 ΩOK_nil))))))
theorem con_l91Mat {cb : CodeB} (hk : CodeOk cb) (hG : Known cb (glb ++ cb.tail)) : ConOK Try.prog (glb ++ cb.tail) 48 sg_l91Mat (F_l91Mat cb).spec := conOK_tree (om_l91Mat hk hG) mixed Try.func48 (by kernel_rfl) (congrFun run_l91Mat cb.tail)

def sg_l92Table : Sig := { args := [.s (.p (.own 0) 0)], pre := [⟨[.e (.var 0), .e (.var 1)], 73⟩], tin := [.sl, .int .i64], gin := [], res := .c (.ag [.e (.var 0), .e (.var 1), .e (.var 2), .e (.var 3), .e (.var 4), .e (.var 5), .e (.var 6), .e (.var 7), .e (.var 8), .e (.var 9), .e (.var 10), .e (.var 11), .e (.var 12), .e (.var 13), .e (.var 14), .e (.var 15), .e (.var 16), .e (.var 17), .e (.var 18), .e (.var 19), .e (.var 20), .e (.var 21), .e (.var 22), .e (.var 23), .e (.var 24), .e (.var 25), .e (.var 26), .e (.var 27), .e (.var 28), .e (.var 29), .e (.var 30), .e (.var 31), .e (.var 32), .e (.var 33), .e (.var 34), .e (.var 35), .e (.var 36), .e (.var 37), .e (.var 38), .e (.var 39), .e (.var 40), .e (.var 41), .e (.var 42), .e (.var 43), .e (.var 44), .e (.var 45), .e (.var 46), .e (.var 47)]), post := [⟨[.e (.var 48), .e (.var 49)], 73⟩], tout := [.int .i64, .int .i64, .int .i64, .int .i64, .int .i64, .int .i64, .int .i64, .int .i64, .int .i64, .int .i64, .int .i64, .int .i64, .int .i64, .int .i64, .int .i64, .int .i64, .int .i64, .int .i64, .int .i64, .int .i64, .int .i64, .int .i64, .int .i64, .int .i64, .int .i64, .int .i64, .int .i64, .int .i64, .int .i64, .int .i64, .int .i64, .int .i64, .int .i64, .int .i64, .int .i64, .int .i64, .int .i64, .int .i64, .int .i64, .int .i64, .int .i64, .int .i64, .int .i64, .int .i64, .int .i64, .int .i64, .int .i64, .int .i64, .sl, .int .i64], gout := [] }
def cl_l92Table : List (Nat × Sig) := [(49, sg_pickC), (48, sg_l91Mat), (47, sg_sTableOf), (50, sg_l6tUnit), (51, sg_l91Real)]
theorem run_l92Table : (fun H : List (Nat × List Sc) => run ⟨Try.prog, glb ++ H, cl_l92Table⟩ [] Try.f32 sg_l92Table (Try.f32.body.getD .skip)) = fun _ => tr_l92Table := by kernel_rfl
theorem om_l92Table {cb : CodeB} (hk : CodeOk cb) (hG : Known cb (glb ++ cb.tail)) : ΩOK ⟨Try.prog, glb ++ cb.tail, cl_l92Table⟩ (specsOf (Fs_l92Table cb)) := (ΩOK_cons (con_pickC hk hG) Try.call49 (ΩOK_cons (con_l91Mat hk hG) Try.call48 (ΩOK_cons cong_sTableOf.more Try.call47 (ΩOK_cons con_l6tUnit.more Try.call50 (ΩOK_cons (con_l91Real hk hG) Try.call51 ΩOK_nil)))))
theorem con_l92Table {cb : CodeB} (hk : CodeOk cb) (hG : Known cb (glb ++ cb.tail)) : ConOK Try.prog (glb ++ cb.tail) 32 sg_l92Table (F_l92Table cb).spec := conOK_tree (om_l92Table hk hG) mixed Try.func32 (by kernel_rfl) (congrFun run_l92Table cb.tail)

def sg_iStokesAdd : Sig := { args := [.ag [.e (.var 0), .e (.var 1), .e (.var 2), .e (.var 3), .e (.var 4), .e (.var 5), .e (.var 6), .e (.var 7), .e (.var 8), .e (.var 9), .e (.var 10), .e (.var 11)], .ag [.e (.var 12), .e (.var 13), .e (.var 14), .e (.var 15), .e (.var 16), .e (.var 17), .e (.var 18), .e (.var 19), .e (.var 20), .e (.var 21), .e (.var 22), .e (.var 23)]], pre := [], tin := [.int .i64, .int .i64, .int .i64, .int .i64, .int .i64, .int .i64, .int .i64, .int .i64, .int .i64, .int .i64, .int .i64, .int .i64, .int .i64, .int .i64, .int .i64, .int .i64, .int .i64, .int .i64, .int .i64, .int .i64, .int .i64, .int .i64, .int .i64, .int .i64], gin := [], res := .tu [.ag [.e (.var 0), .e (.var 1), .e (.var 2), .e (.var 3), .e (.var 4), .e (.var 5), .e (.var 6), .e (.var 7), .e (.var 8), .e (.var 9), .e (.var 10), .e (.var 11)], .s (.e (.var 12))], post := [], tout := [.int .i64, .int .i64, .int .i64, .int .i64, .int .i64, .int .i64, .int .i64, .int .i64, .int .i64, .int .i64, .int .i64, .int .i64, .bool], gout := [] }
def cl_iStokesAdd : List (Nat × Sig) := [(30, sg_iStokesValid), (14, sg_need), (17, sg_add), (26, sg_gotStokes)]
theorem run_iStokesAdd : run ⟨Try.prog, glb, cl_iStokesAdd⟩ [] Try.f12 sg_iStokesAdd (Try.f12.body.getD .skip) = tr_iStokesAdd := by kernel_rfl
theorem om_iStokesAdd : ΩOK ⟨Try.prog, glb, cl_iStokesAdd⟩ (specsOf Fs_iStokesAdd) := (ΩOK_cons cong_iStokesValid Try.call30 (ΩOK_cons cong_need Try.call14 (ΩOK_cons cong_add Try.call17 (ΩOK_cons cong_gotStokes Try.call26 ΩOK_nil))))
theorem con_iStokesAdd : ConOK Try.prog glb 12 sg_iStokesAdd F_iStokesAdd.spec := conOK_tree om_iStokesAdd mixed Try.func12 (by kernel_rfl) run_iStokesAdd
theorem cong_iStokesAdd : ConOK Try.prog glb 12 sg_iStokesAdd G_iStokesAdd.spec := con_iStokesAdd.as as_iStokesAdd

def sg_l91Jones : Sig := { args := [.s (.p (.own 0) 0)], pre := [⟨[.e (.var 0), .e (.var 1)], 73⟩], tin := [.sl, .int .i64], gin := [], res := .c (.ag [.e (.var 0), .e (.var 1), .e (.var 2), .e (.var 3), .e (.var 4), .e (.var 5)]), post := [⟨[.e (.var 6), .e (.var 7)], 73⟩], tout := [.int .i64, .int .i64, .int .i64, .int .i64, .int .i64, .int .i64, .sl, .int .i64], gout := [] }
def cl_l91Jones : List (Nat × Sig) := [(49, sg_pickC), (70, sg_l91Frac)]
theorem run_l91Jones : (fun H : List (Nat × List Sc) => run ⟨Try.prog, glb ++ H, cl_l91Jones⟩ [] Try.f53 sg_l91Jones (Try.f53.body.getD .skip)) = fun _ => tr_l91Jones := by kernel_rfl
theorem om_l91Jones {cb : CodeB} (hk : CodeOk cb) (hG : Known cb (glb ++ cb.tail)) : ΩOK ⟨Try.prog, glb ++ cb.tail, cl_l91Jones⟩ (specsOf (Fs_l91Jones cb)) := (ΩOK_cons (con_pickC hk hG) Try.call49 (ΩOK_cons (con_l91Frac hk hG) Try.call70 ΩOK_nil))
theorem con_l91Jones {cb : CodeB} (hk : CodeOk cb) (hG : Known cb (glb ++ cb.tail)) : ConOK Try.prog (glb ++ cb.tail) 53 sg_l91Jones (F_l91Jones cb).spec := conOK_tree (om_l91Jones hk hG) mixed Try.func53 (by kernel_rfl) (congrFun run_l91Jones cb.tail)

def sg_sStokesAdd : Sig := { args := [.ag [.e (.var 0), .e (.var 1), .e (.var 2), .e (.var 3), .e (.var 4), .e (.var 5), .e (.var 6), .e (.var 7), .e (.var 8), .e (.var 9), .e (.var 10), .e (.var 11)], .ag [.e (.var 12), .e (.var 13), .e (.var 14), .e (.var 15), .e (.var 16), .e (.var 17), .e (.var 18), .e (.var 19), .e (.var 20), .e (.var 21), .e (.var 22), .e (.var 23)]], pre := [], tin := [.int .i64, .int .i64, .int .i64, .int .i64, .int .i64, .int .i64, .int .i64, .int .i64, .int .i64, .int .i64, .int .i64, .int .i64, .int .i64, .int .i64, .int .i64, .int .i64, .int .i64, .int .i64, .int .i64, .int .i64, .int .i64, .int .i64, .int .i64, .int .i64], gin := [], res := .tu [.ag [.e (.var 0), .e (.var 1), .e (.var 2), .e (.var 3), .e (.var 4), .e (.var 5), .e (.var 6), .e (.var 7), .e (.var 8), .e (.var 9), .e (.var 10), .e (.var 11)], .s (.e (.var 12))], post := [], tout := [.int .i64, .int .i64, .int .i64, .int .i64, .int .i64, .int .i64, .int .i64, .int .i64, .int .i64, .int .i64, .int .i64, .int .i64, .bool], gout := [] }
def cl_sStokesAdd : List (Nat × Sig) := [(34, sg_sStokesValid), (74, sg_sFracAdd)]
theorem run_sStokesAdd : run ⟨Try.prog, glb, cl_sStokesAdd⟩ [] Try.f54 sg_sStokesAdd (Try.f54.body.getD .skip) = tr_sStokesAdd := by kernel_rfl
theorem om_sStokesAdd : ΩOK ⟨Try.prog, glb, cl_sStokesAdd⟩ (specsOf Fs_sStokesAdd) := (ΩOK_cons cong_sStokesValid Try.call34 (ΩOK_cons cong_sFracAdd Try.call74 ΩOK_nil))
theorem con_sStokesAdd : ConOK Try.prog glb 54 sg_sStokesAdd F_sStokesAdd.spec := conOK_tree om_sStokesAdd mixed Try.func54 (by kernel_rfl) run_sStokesAdd

def sg_l4Twice : Sig := { args := [.s (.e (.var 0)), .s (.e (.var 1))], pre := [], tin := [.int .i64, .int .i64], gin := [], res := .tu [.ag [.e (.var 0), .e (.var 1), .e (.var 2)], .s (.e (.var 3))], post := [], tout := [.int .i64, .int .i64, .int .i64, .bool], gout := [] }
def cl_l4Twice : List (Nat × Sig) := [(85, sg_sFracMake)]
theorem run_l4Twice : run ⟨Try.prog, glb, cl_l4Twice⟩ [] Try.f76 sg_l4Twice (Try.f76.body.getD .skip) = tr_l4Twice := by kernel_rfl
theorem om_l4Twice : ΩOK ⟨Try.prog, glb, cl_l4Twice⟩ (specsOf Fs_l4Twice) := (ΩOK_cons cong_sFracMake Try.call85 ΩOK_nil)
theorem con_l4Twice : ConOK Try.prog glb 76 sg_l4Twice F_l4Twice.spec := conOK_tree om_l4Twice mixed Try.func76 (by kernel_rfl) run_l4Twice

def sg_sStokesOf : Sig := { args := [.ag [.e (.var 0), .e (.var 1), .e (.var 2), .e (.var 3), .e (.var 4), .e (.var 5)]], pre := [], tin := [.int .i64, .int .i64, .int .i64, .int .i64, .int .i64, .int .i64], gin := [], res := .tu [.ag [.e (.var 0), .e (.var 1), .e (.var 2), .e (.var 3), .e (.var 4), .e (.var 5), .e (.var 6), .e (.var 7), .e (.var 8), .e (.var 9), .e (.var 10), .e (.var 11)], .s (.e (.var 12))], post := [], tout := [.int .i64, .int .i64, .int .i64, .int .i64, .int .i64, .int .i64, .int .i64, .int .i64, .int .i64, .int .i64, .int .i64, .int .i64, .bool], gout := [] }
def cl_sStokesOf : List (Nat × Sig) := [(72, sg_sFracPower), (74, sg_sFracAdd), (75, sg_sFracLess), (73, sg_sFracMirror), (40, sg_sFracTimes), (76, sg_l4Twice)]
theorem run_sStokesOf : run ⟨Try.prog, glb, cl_sStokesOf⟩ [] Try.f52 sg_sStokesOf (Try.f52.body.getD .skip) = tr_sStokesOf := by kernel_rfl
theorem om_sStokesOf : ΩOK ⟨Try.prog, glb, cl_sStokesOf⟩ (specsOf Fs_sStokesOf) := (ΩOK_cons cong_sFracPower Try.call72 (ΩOK_cons cong_sFracAdd Try.call74 (ΩOK_cons cong_sFracLess Try.call75 (ΩOK_cons cong_sFracMirror Try.call73 (ΩOK_cons cong_sFracTimes Try.call40 (ΩOK_cons con_l4Twice Try.call76 ΩOK_nil))))))
theorem con_sStokesOf : ConOK Try.prog glb 52 sg_sStokesOf F_sStokesOf.spec := conOK_tree om_sStokesOf mixed Try.func52 (by kernel_rfl) run_sStokesOf

def sg_l91Stokes : Sig := { args := [.s (.p (.own 0) 0)], pre := [⟨[.e (.var 0), .e (.var 1)], 73⟩], tin := [.sl, .int .i64], gin := [], res := .c (.ag [.e (.var 0), .e (.var 1), .e (.var 2), .e (.var 3), .e (.var 4), .e (.var 5), .e (.var 6), .e (.var 7), .e (.var 8), .e (.var 9), .e (.var 10), .e (.var 11)]), post := [⟨[.e (.var 12), .e (.var 13)], 73⟩], tout := [.int .i64, .int .i64, .int .i64, .int .i64, .int .i64, .int .i64, .int .i64, .int .i64, .int .i64, .int .i64, .int .i64, .int .i64, .sl, .int .i64], gout := [] }
def cl_l91Stokes : List (Nat × Sig) := [(49, sg_pickC), (53, sg_l91Jones), (52, sg_sStokesOf), (54, sg_sStokesAdd), (51, sg_l91Real)]
theorem run_l91Stokes : (fun H : List (Nat × List Sc) => run ⟨Try.prog, glb ++ H, cl_l91Stokes⟩ [] Try.f33 sg_l91Stokes (Try.f33.body.getD .skip)) = fun _ => tr_l91Stokes := by kernel_rfl
theorem om_l91Stokes {cb : CodeB} (hk : CodeOk cb) (hG : Known cb (glb ++ cb.tail)) : ΩOK ⟨Try.prog, glb ++ cb.tail, cl_l91Stokes⟩ (specsOf (Fs_l91Stokes cb)) := (ΩOK_cons (con_pickC hk hG) Try.call49 (ΩOK_cons (con_l91Jones hk hG) Try.call53 (ΩOK_cons con_sStokesOf.more Try.call52 (ΩOK_cons con_sStokesAdd.more Try.call54 (ΩOK_cons (con_l91Real hk hG) Try.call51 ΩOK_nil)))))
theorem con_l91Stokes {cb : CodeB} (hk : CodeOk cb) (hG : Known cb (glb ++ cb.tail)) : ConOK Try.prog (glb ++ cb.tail) 33 sg_l91Stokes (F_l91Stokes cb).spec := conOK_tree (om_l91Stokes hk hG) mixed Try.func33 (by kernel_rfl) (congrFun run_l91Stokes cb.tail)

def sg_DrawTableApply : Sig := { args := [.s (.e (.var 0))], pre := [], tin := [.sl], gin := [], res := .tu [.ag [.e (.var 0), .e (.var 1), .e (.var 2), .e (.var 3), .e (.var 4), .e (.var 5), .e (.var 6), .e (.var 7), .e (.var 8), .e (.var 9), .e (.var 10), .e (.var 11), .e (.var 12), .e (.var 13), .e (.var 14), .e (.var 15), .e (.var 16), .e (.var 17), .e (.var 18), .e (.var 19), .e (.var 20), .e (.var 21), .e (.var 22), .e (.var 23), .e (.var 24), .e (.var 25), .e (.var 26), .e (.var 27), .e (.var 28), .e (.var 29), .e (.var 30), .e (.var 31), .e (.var 32), .e (.var 33), .e (.var 34), .e (.var 35), .e (.var 36), .e (.var 37), .e (.var 38), .e (.var 39), .e (.var 40), .e (.var 41), .e (.var 42), .e (.var 43), .e (.var 44), .e (.var 45), .e (.var 46), .e (.var 47)], .ag [.e (.var 48), .e (.var 49), .e (.var 50), .e (.var 51), .e (.var 52), .e (.var 53), .e (.var 54), .e (.var 55), .e (.var 56), .e (.var 57), .e (.var 58), .e (.var 59)]], post := [], tout := [.int .i64, .int .i64, .int .i64, .int .i64, .int .i64, .int .i64, .int .i64, .int .i64, .int .i64, .int .i64, .int .i64, .int .i64, .int .i64, .int .i64, .int .i64, .int .i64, .int .i64, .int .i64, .int .i64, .int .i64, .int .i64, .int .i64, .int .i64, .int .i64, .int .i64, .int .i64, .int .i64, .int .i64, .int .i64, .int .i64, .int .i64, .int .i64, .int .i64, .int .i64, .int .i64, .int .i64, .int .i64, .int .i64, .int .i64, .int .i64, .int .i64, .int .i64, .int .i64, .int .i64, .int .i64, .int .i64, .int .i64, .int .i64, .int .i64, .int .i64, .int .i64, .int .i64, .int .i64, .int .i64, .int .i64, .int .i64, .int .i64, .int .i64, .int .i64, .int .i64], gout := [] }
def cl_DrawTableApply : List (Nat × Sig) := [(31, sg_openC), (32, sg_l92Table), (33, sg_l91Stokes)]
theorem run_DrawTableApply : (fun H : List (Nat × List Sc) => run ⟨Try.prog, glb ++ H, cl_DrawTableApply⟩ [] Try.f10 sg_DrawTableApply (Try.f10.body.getD .skip)) = fun _ => tr_DrawTableApply := by kernel_rfl
theorem om_DrawTableApply {cb : CodeB} (hk : CodeOk cb) (hG : Known cb (glb ++ cb.tail)) : ΩOK ⟨Try.prog, glb ++ cb.tail, cl_DrawTableApply⟩ (specsOf (Fs_DrawTableApply cb)) := (ΩOK_cons (con_openC hk hG) Try.call31 (ΩOK_cons (con_l92Table hk hG) Try.call32 (ΩOK_cons (con_l91Stokes hk hG) Try.call33 ΩOK_nil)))
theorem con_DrawTableApply {cb : CodeB} (hk : CodeOk cb) (hG : Known cb (glb ++ cb.tail)) : ConOK Try.prog (glb ++ cb.tail) 10 sg_DrawTableApply (F_DrawTableApply cb).spec := conOK_tree (om_DrawTableApply hk hG) mixed Try.func10 (by kernel_rfl) (congrFun run_DrawTableApply cb.tail)

def sg_FnTableApply : Sig := { args := [.s (.e (.var 0))], pre := [], tin := [.sl], gin := [], res := .c (.s (.e (.var 0))), post := [], tout := [.bool], gout := [] }
def cl_FnTableApply : List (Nat × Sig) := [(10, sg_DrawTableApply), (9, sg_iTableApply), (11, sg_sTableApply), (12, sg_iStokesAdd)]
theorem run_FnTableApply : (fun H : List (Nat × List Sc) => run ⟨Try.prog, glb ++ H, cl_FnTableApply⟩ [] Try.f4 sg_FnTableApply (Try.f4.body.getD .skip)) = fun _ => tr_FnTableApply := by kernel_rfl
theorem draw_DrawTableApply {cb : CodeB} (hk : CodeOk cb) (hG : Known cb (glb ++ cb.tail)) : ConOK Try.prog (glb ++ cb.tail) 10 sg_DrawTableApply (drawSpec dt_FnTableApply (drawPre cb)) := (con_DrawTableApply hk hG).draw (draw_pre (aok_DrawTableApply hk) (by kernel_rfl))
theorem om_FnTableApply {cb : CodeB} (hk : CodeOk cb) (hG : Known cb (glb ++ cb.tail)) : ΩOK ⟨Try.prog, glb ++ cb.tail, cl_FnTableApply⟩ (Ss_FnTableApply cb) := ΩOK_specs (draw_DrawTableApply hk hG) Try.call10 (ΩOK_cons cong_iTableApply.more Try.call9 (ΩOK_cons cong_sTableApply.more Try.call11 (ΩOK_cons cong_iStokesAdd.more Try.call12 ΩOK_nil)))
theorem con_FnTableApply {cb : CodeB} (hk : CodeOk cb) (hG : Known cb (glb ++ cb.tail)) : ConOK Try.prog (glb ++ cb.tail) 4 sg_FnTableApply (lawF cb).spec := conOK_of (om_FnTableApply hk hG) mixed Try.func4 (by kernel_rfl) (congrFun run_FnTableApply cb.tail) (fun ins K ht h => sat_FnTableApply Try.prog cb ins K ht h.1 h.2)

end Go.Proofs.Ytofdmonjagkgeaa

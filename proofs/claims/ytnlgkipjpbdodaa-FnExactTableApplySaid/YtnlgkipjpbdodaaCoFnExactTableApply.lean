/- The contracts of the functions. -/
import Derived.Test.YtnlgkipjpbdodaaChecked
import Derived.Test.YtnlgkipjpbdodaaRkAFnExactTableApply
namespace Go.Proofs.Ytnlgkipjpbdodaa
open Go Go.Sx
set_option maxRecDepth 100000

def glb : List (Nat × List Sc) := []
theorem mixed : Try.prog.follows .mixedOrders = true := by kernel_rfl

def sg_size : Sig := { args := [.s (.e (.var 0))], pre := [], tin := [.int .i64], gin := [], res := .c (.s (.e (.var 0))), post := [], tout := [.int .i64], gout := [] }
def cl_size : List (Nat × Sig) := []
theorem run_size : run ⟨Try.prog, glb, cl_size⟩ [] Try.f53 sg_size (Try.f53.body.getD .skip) = tr_size := by kernel_rfl
theorem om_size : ΩOK ⟨Try.prog, glb, cl_size⟩ (specsOf Fs_size) := ΩOK_nil
theorem con_size : ConOK Try.prog glb 53 sg_size F_size.spec := conOK_tree om_size mixed Try.func53 (by kernel_rfl) run_size

def sg_within : Sig := { args := [.s (.e (.var 0)), .s (.e (.var 1)), .s (.e (.var 2))], pre := [], tin := [.int .i64, .int .i64, .int .i64], gin := [], res := .c (.s (.e (.var 0))), post := [], tout := [.bool], gout := [] }
def cl_within : List (Nat × Sig) := []
theorem run_within : run ⟨Try.prog, glb, cl_within⟩ [] Try.f31 sg_within (Try.f31.body.getD .skip) = tr_within := by kernel_rfl
theorem om_within : ΩOK ⟨Try.prog, glb, cl_within⟩ (specsOf Fs_within) := ΩOK_nil
theorem con_within : ConOK Try.prog glb 31 sg_within F_within.spec := conOK_tree om_within mixed Try.func31 (by kernel_rfl) run_within
theorem cong_within : ConOK Try.prog glb 31 sg_within G_within.spec := con_within.as as_within

def sg_l6In : Sig := { args := [.s (.e (.var 0)), .s (.e (.var 1)), .s (.e (.var 2))], pre := [], tin := [.int .i64, .int .i64, .int .i64], gin := [], res := .c (.s (.e (.var 0))), post := [], tout := [.bool], gout := [] }
def cl_l6In : List (Nat × Sig) := []
theorem run_l6In : run ⟨Try.prog, glb, cl_l6In⟩ [] Try.f28 sg_l6In (Try.f28.body.getD .skip) = tr_l6In := by kernel_rfl
theorem om_l6In : ΩOK ⟨Try.prog, glb, cl_l6In⟩ (specsOf Fs_l6In) := ΩOK_nil
theorem con_l6In : ConOK Try.prog glb 28 sg_l6In F_l6In.spec := conOK_tree om_l6In mixed Try.func28 (by kernel_rfl) run_l6In
theorem cong_l6In : ConOK Try.prog glb 28 sg_l6In G_l6In.spec := con_l6In.as as_l6In

def sg_l2In : Sig := { args := [.s (.e (.var 0))], pre := [], tin := [.int .i64], gin := [], res := .c (.s (.e (.var 0))), post := [], tout := [.bool], gout := [] }
def cl_l2In : List (Nat × Sig) := [(28, sg_l6In)]
theorem run_l2In : run ⟨Try.prog, glb, cl_l2In⟩ [] Try.f58 sg_l2In (Try.f58.body.getD .skip) = tr_l2In := by kernel_rfl
theorem om_l2In : ΩOK ⟨Try.prog, glb, cl_l2In⟩ (specsOf Fs_l2In) := (ΩOK_cons cong_l6In Try.call28 ΩOK_nil)
theorem con_l2In : ConOK Try.prog glb 58 sg_l2In F_l2In.spec := conOK_tree om_l2In mixed Try.func58 (by kernel_rfl) run_l2In
theorem cong_l2In : ConOK Try.prog glb 58 sg_l2In G_l2In.spec := con_l2In.as as_l2In

def sg_divisor : Sig := { args := [.s (.e (.var 0)), .s (.e (.var 1))], pre := [], tin := [.int .i64, .int .i64], gin := [], res := .c (.s (.e (.var 0))), post := [], tout := [.int .i64], gout := [] }
def cl_divisor : List (Nat × Sig) := []
theorem run_divisor : run ⟨Try.prog, glb, cl_divisor⟩ [(0, ⟨[(0, .int .i64), (1, .int .i64)], []⟩)] Try.f52 sg_divisor (Try.f52.body.getD .skip) = tr_divisor := by kernel_rfl
theorem om_divisor : ΩOK ⟨Try.prog, glb, cl_divisor⟩ (specsOf Fs_divisor) := ΩOK_nil
theorem con_divisor : ConOK Try.prog glb 52 sg_divisor F_divisor.spec := conOK_of om_divisor mixed Try.func52 (by kernel_rfl) run_divisor (fun ins K ht h => sat_divisor Try.prog ins K ht h.1 h.2)

def sg_l2Gcd : Sig := { args := [.s (.e (.var 0)), .s (.e (.var 1))], pre := [], tin := [.int .i64, .int .i64], gin := [], res := .c (.s (.e (.var 0))), post := [], tout := [.int .i64], gout := [] }
def cl_l2Gcd : List (Nat × Sig) := []
theorem run_l2Gcd : run ⟨Try.prog, glb, cl_l2Gcd⟩ [(0, ⟨[(0, .int .i64), (1, .int .i64)], []⟩)] Try.f59 sg_l2Gcd (Try.f59.body.getD .skip) = tr_l2Gcd := by kernel_rfl
theorem om_l2Gcd : ΩOK ⟨Try.prog, glb, cl_l2Gcd⟩ (specsOf Fs_l2Gcd) := ΩOK_nil
theorem con_l2Gcd : ConOK Try.prog glb 59 sg_l2Gcd F_l2Gcd.spec := conOK_of om_l2Gcd mixed Try.func59 (by kernel_rfl) run_l2Gcd (fun ins K ht h => sat_l2Gcd Try.prog ins K ht h.1 h.2)

def sg_lowest : Sig := { args := [.s (.e (.var 0)), .s (.e (.var 1)), .s (.e (.var 2))], pre := [], tin := [.int .i64, .int .i64, .int .i64], gin := [], res := .tu [.ag [.e (.var 0), .e (.var 1), .e (.var 2)], .s (.e (.var 3))], post := [], tout := [.int .i64, .int .i64, .int .i64, .bool], gout := [] }
def cl_lowest : List (Nat × Sig) := [(53, sg_size), (52, sg_divisor), (31, sg_within)]
theorem run_lowest : run ⟨Try.prog, glb, cl_lowest⟩ [] Try.f32 sg_lowest (Try.f32.body.getD .skip) = tr_lowest := by kernel_rfl
theorem om_lowest : ΩOK ⟨Try.prog, glb, cl_lowest⟩ (specsOf Fs_lowest) := (ΩOK_cons con_size Try.call53 (ΩOK_cons con_divisor Try.call52 (ΩOK_cons cong_within Try.call31 ΩOK_nil)))
theorem con_lowest : ConOK Try.prog glb 32 sg_lowest F_lowest.spec := conOK_tree om_lowest mixed Try.func32 (by kernel_rfl) run_lowest
theorem cong_lowest : ConOK Try.prog glb 32 sg_lowest G_lowest.spec := con_lowest.as as_lowest

def sg_sFracValid : Sig := { args := [.ag [.e (.var 0), .e (.var 1), .e (.var 2)]], pre := [], tin := [.int .i64, .int .i64, .int .i64], gin := [], res := .c (.s (.e (.var 0))), post := [], tout := [.bool], gout := [] }
def cl_sFracValid : List (Nat × Sig) := [(58, sg_l2In), (28, sg_l6In), (59, sg_l2Gcd)]
theorem run_sFracValid : run ⟨Try.prog, glb, cl_sFracValid⟩ [] Try.f41 sg_sFracValid (Try.f41.body.getD .skip) = tr_sFracValid := by kernel_rfl
theorem om_sFracValid : ΩOK ⟨Try.prog, glb, cl_sFracValid⟩ (specsOf Fs_sFracValid) := (ΩOK_cons cong_l2In Try.call58 (ΩOK_cons cong_l6In Try.call28 (ΩOK_cons con_l2Gcd Try.call59 ΩOK_nil)))
theorem con_sFracValid : ConOK Try.prog glb 41 sg_sFracValid F_sFracValid.spec := conOK_tree om_sFracValid mixed Try.func41 (by kernel_rfl) run_sFracValid
theorem cong_sFracValid : ConOK Try.prog glb 41 sg_sFracValid G_sFracValid.spec := con_sFracValid.as as_sFracValid

def sg_l2Low : Sig := { args := [.s (.e (.var 0)), .s (.e (.var 1)), .s (.e (.var 2))], pre := [], tin := [.int .i64, .int .i64, .int .i64], gin := [], res := .tu [.ag [.e (.var 0), .e (.var 1), .e (.var 2)], .s (.e (.var 3))], post := [], tout := [.int .i64, .int .i64, .int .i64, .bool], gout := [] }
def cl_l2Low : List (Nat × Sig) := [(59, sg_l2Gcd), (41, sg_sFracValid)]
theorem run_l2Low : run ⟨Try.prog, glb, cl_l2Low⟩ [] Try.f50 sg_l2Low (Try.f50.body.getD .skip) = tr_l2Low := by kernel_rfl
theorem om_l2Low : ΩOK ⟨Try.prog, glb, cl_l2Low⟩ (specsOf Fs_l2Low) := (ΩOK_cons con_l2Gcd Try.call59 (ΩOK_cons cong_sFracValid Try.call41 ΩOK_nil))
theorem con_l2Low : ConOK Try.prog glb 50 sg_l2Low F_l2Low.spec := conOK_tree om_l2Low mixed Try.func50 (by kernel_rfl) run_l2Low
theorem cong_l2Low : ConOK Try.prog glb 50 sg_l2Low G_l2Low.spec := con_l2Low.as as_l2Low

def sg_iFracValid : Sig := { args := [.ag [.e (.var 0), .e (.var 1), .e (.var 2)]], pre := [], tin := [.int .i64, .int .i64, .int .i64], gin := [], res := .c (.s (.e (.var 0))), post := [], tout := [.bool], gout := [] }
def cl_iFracValid : List (Nat × Sig) := [(31, sg_within), (52, sg_divisor), (53, sg_size)]
theorem run_iFracValid : run ⟨Try.prog, glb, cl_iFracValid⟩ [] Try.f61 sg_iFracValid (Try.f61.body.getD .skip) = tr_iFracValid := by kernel_rfl
theorem om_iFracValid : ΩOK ⟨Try.prog, glb, cl_iFracValid⟩ (specsOf Fs_iFracValid) := (ΩOK_cons cong_within Try.call31 (ΩOK_cons con_divisor Try.call52 (ΩOK_cons con_size Try.call53 ΩOK_nil)))
theorem con_iFracValid : ConOK Try.prog glb 61 sg_iFracValid F_iFracValid.spec := conOK_tree om_iFracValid mixed Try.func61 (by kernel_rfl) run_iFracValid
theorem cong_iFracValid : ConOK Try.prog glb 61 sg_iFracValid G_iFracValid.spec := con_iFracValid.as as_iFracValid

def sg_realOk : Sig := { args := [.ag [.e (.var 0), .e (.var 1), .e (.var 2)]], pre := [], tin := [.int .i64, .int .i64, .int .i64], gin := [], res := .c (.s (.e (.var 0))), post := [], tout := [.bool], gout := [] }
def cl_realOk : List (Nat × Sig) := [(61, sg_iFracValid)]
theorem run_realOk : run ⟨Try.prog, glb, cl_realOk⟩ [] Try.f45 sg_realOk (Try.f45.body.getD .skip) = tr_realOk := by kernel_rfl
theorem om_realOk : ΩOK ⟨Try.prog, glb, cl_realOk⟩ (specsOf Fs_realOk) := (ΩOK_cons cong_iFracValid Try.call61 ΩOK_nil)
theorem con_realOk : ConOK Try.prog glb 45 sg_realOk F_realOk.spec := conOK_tree om_realOk mixed Try.func45 (by kernel_rfl) run_realOk
theorem cong_realOk : ConOK Try.prog glb 45 sg_realOk G_realOk.spec := con_realOk.as as_realOk

def sg_iFracAdd : Sig := { args := [.ag [.e (.var 0), .e (.var 1), .e (.var 2)], .ag [.e (.var 3), .e (.var 4), .e (.var 5)]], pre := [], tin := [.int .i64, .int .i64, .int .i64, .int .i64, .int .i64, .int .i64], gin := [], res := .tu [.ag [.e (.var 0), .e (.var 1), .e (.var 2)], .s (.e (.var 3))], post := [], tout := [.int .i64, .int .i64, .int .i64, .bool], gout := [] }
def cl_iFracAdd : List (Nat × Sig) := [(61, sg_iFracValid), (32, sg_lowest)]
theorem run_iFracAdd : run ⟨Try.prog, glb, cl_iFracAdd⟩ [] Try.f48 sg_iFracAdd (Try.f48.body.getD .skip) = tr_iFracAdd := by kernel_rfl
theorem om_iFracAdd : ΩOK ⟨Try.prog, glb, cl_iFracAdd⟩ (specsOf Fs_iFracAdd) := (ΩOK_cons cong_iFracValid Try.call61 (ΩOK_cons cong_lowest Try.call32 ΩOK_nil))
theorem con_iFracAdd : ConOK Try.prog glb 48 sg_iFracAdd F_iFracAdd.spec := conOK_tree om_iFracAdd mixed Try.func48 (by kernel_rfl) run_iFracAdd
theorem cong_iFracAdd : ConOK Try.prog glb 48 sg_iFracAdd G_iFracAdd.spec := con_iFracAdd.as as_iFracAdd

def sg_iFracTimes : Sig := { args := [.ag [.e (.var 0), .e (.var 1), .e (.var 2)], .ag [.e (.var 3), .e (.var 4), .e (.var 5)]], pre := [], tin := [.int .i64, .int .i64, .int .i64, .int .i64, .int .i64, .int .i64], gin := [], res := .tu [.ag [.e (.var 0), .e (.var 1), .e (.var 2)], .s (.e (.var 3))], post := [], tout := [.int .i64, .int .i64, .int .i64, .bool], gout := [] }
def cl_iFracTimes : List (Nat × Sig) := [(61, sg_iFracValid), (32, sg_lowest)]
theorem run_iFracTimes : run ⟨Try.prog, glb, cl_iFracTimes⟩ [] Try.f47 sg_iFracTimes (Try.f47.body.getD .skip) = tr_iFracTimes := by kernel_rfl
theorem om_iFracTimes : ΩOK ⟨Try.prog, glb, cl_iFracTimes⟩ (specsOf Fs_iFracTimes) := (ΩOK_cons cong_iFracValid Try.call61 (ΩOK_cons cong_lowest Try.call32 ΩOK_nil))
theorem con_iFracTimes : ConOK Try.prog glb 47 sg_iFracTimes F_iFracTimes.spec := conOK_tree om_iFracTimes mixed Try.func47 (by kernel_rfl) run_iFracTimes
theorem cong_iFracTimes : ConOK Try.prog glb 47 sg_iFracTimes G_iFracTimes.spec := con_iFracTimes.as as_iFracTimes

def sg_l2Sum : Sig := { args := [.ag [.e (.var 0), .e (.var 1), .e (.var 2)], .s (.e (.var 3)), .ag [.e (.var 4), .e (.var 5), .e (.var 6)]], pre := [], tin := [.int .i64, .int .i64, .int .i64, .int .i64, .int .i64, .int .i64, .int .i64], gin := [], res := .tu [.ag [.e (.var 0), .e (.var 1), .e (.var 2)], .s (.e (.var 3))], post := [], tout := [.int .i64, .int .i64, .int .i64, .bool], gout := [] }
def cl_l2Sum : List (Nat × Sig) := [(41, sg_sFracValid), (50, sg_l2Low)]
theorem run_l2Sum : run ⟨Try.prog, glb, cl_l2Sum⟩ [] Try.f60 sg_l2Sum (Try.f60.body.getD .skip) = tr_l2Sum := by kernel_rfl
theorem om_l2Sum : ΩOK ⟨Try.prog, glb, cl_l2Sum⟩ (specsOf Fs_l2Sum) := (ΩOK_cons cong_sFracValid Try.call41 (ΩOK_cons cong_l2Low Try.call50 ΩOK_nil))
theorem con_l2Sum : ConOK Try.prog glb 60 sg_l2Sum F_l2Sum.spec := conOK_tree om_l2Sum mixed Try.func60 (by kernel_rfl) run_l2Sum
theorem cong_l2Sum : ConOK Try.prog glb 60 sg_l2Sum G_l2Sum.spec := con_l2Sum.as as_l2Sum

def sg_sFracTimes : Sig := { args := [.ag [.e (.var 0), .e (.var 1), .e (.var 2)], .ag [.e (.var 3), .e (.var 4), .e (.var 5)]], pre := [], tin := [.int .i64, .int .i64, .int .i64, .int .i64, .int .i64, .int .i64], gin := [], res := .tu [.ag [.e (.var 0), .e (.var 1), .e (.var 2)], .s (.e (.var 3))], post := [], tout := [.int .i64, .int .i64, .int .i64, .bool], gout := [] }
def cl_sFracTimes : List (Nat × Sig) := [(41, sg_sFracValid), (50, sg_l2Low)]
theorem run_sFracTimes : run ⟨Try.prog, glb, cl_sFracTimes⟩ [] Try.f42 sg_sFracTimes (Try.f42.body.getD .skip) = tr_sFracTimes := by kernel_rfl
theorem om_sFracTimes : ΩOK ⟨Try.prog, glb, cl_sFracTimes⟩ (specsOf Fs_sFracTimes) := (ΩOK_cons cong_sFracValid Try.call41 (ΩOK_cons cong_l2Low Try.call50 ΩOK_nil))
theorem con_sFracTimes : ConOK Try.prog glb 42 sg_sFracTimes F_sFracTimes.spec := conOK_tree om_sFracTimes mixed Try.func42 (by kernel_rfl) run_sFracTimes
theorem cong_sFracTimes : ConOK Try.prog glb 42 sg_sFracTimes G_sFracTimes.spec := con_sFracTimes.as as_sFracTimes

def sg_keep : Sig := { args := [.s (.p (.own 0) 0), .ag [.e (.var 0), .e (.var 1), .e (.var 2)], .s (.e (.var 3))], pre := [⟨[.e (.var 4)], 62⟩], tin := [.int .i64, .int .i64, .int .i64, .bool, .bool], gin := [], res := .c (.ag [.e (.var 0), .e (.var 1), .e (.var 2)]), post := [⟨[.e (.var 3)], 62⟩], tout := [.int .i64, .int .i64, .int .i64, .bool], gout := [] }
def cl_keep : List (Nat × Sig) := []
theorem run_keep : run ⟨Try.prog, glb, cl_keep⟩ [] Try.f46 sg_keep (Try.f46.body.getD .skip) = tr_keep := by kernel_rfl
theorem om_keep : ΩOK ⟨Try.prog, glb, cl_keep⟩ (specsOf Fs_keep) := ΩOK_nil
theorem con_keep : ConOK Try.prog glb 46 sg_keep F_keep.spec := conOK_tree om_keep mixed Try.func46 (by kernel_rfl) run_keep

def sg_add : Sig := { args := [.s (.p (.own 0) 0), .ag [.e (.var 0), .e (.var 1), .e (.var 2)], .ag [.e (.var 3), .e (.var 4), .e (.var 5)]], pre := [⟨[.e (.var 6)], 62⟩], tin := [.int .i64, .int .i64, .int .i64, .int .i64, .int .i64, .int .i64, .bool], gin := [], res := .c (.ag [.e (.var 0), .e (.var 1), .e (.var 2)]), post := [⟨[.e (.var 3)], 62⟩], tout := [.int .i64, .int .i64, .int .i64, .bool], gout := [] }
def cl_add : List (Nat × Sig) := [(48, sg_iFracAdd), (46, sg_keep)]
theorem run_add : run ⟨Try.prog, glb, cl_add⟩ [] Try.f25 sg_add (Try.f25.body.getD .skip) = tr_add := by kernel_rfl
theorem om_add : ΩOK ⟨Try.prog, glb, cl_add⟩ (specsOf Fs_add) := (ΩOK_cons cong_iFracAdd Try.call48 (ΩOK_cons con_keep Try.call46 ΩOK_nil))
theorem con_add : ConOK Try.prog glb 25 sg_add F_add.spec := conOK_tree om_add mixed Try.func25 (by kernel_rfl) run_add
theorem cong_add : ConOK Try.prog glb 25 sg_add G_add.spec := con_add.as as_add

def sg_times : Sig := { args := [.s (.p (.own 0) 0), .ag [.e (.var 0), .e (.var 1), .e (.var 2)], .ag [.e (.var 3), .e (.var 4), .e (.var 5)]], pre := [⟨[.e (.var 6)], 62⟩], tin := [.int .i64, .int .i64, .int .i64, .int .i64, .int .i64, .int .i64, .bool], gin := [], res := .c (.ag [.e (.var 0), .e (.var 1), .e (.var 2)]), post := [⟨[.e (.var 3)], 62⟩], tout := [.int .i64, .int .i64, .int .i64, .bool], gout := [] }
def cl_times : List (Nat × Sig) := [(47, sg_iFracTimes), (46, sg_keep)]
theorem run_times : run ⟨Try.prog, glb, cl_times⟩ [] Try.f24 sg_times (Try.f24.body.getD .skip) = tr_times := by kernel_rfl
theorem om_times : ΩOK ⟨Try.prog, glb, cl_times⟩ (specsOf Fs_times) := (ΩOK_cons cong_iFracTimes Try.call47 (ΩOK_cons con_keep Try.call46 ΩOK_nil))
theorem con_times : ConOK Try.prog glb 24 sg_times F_times.spec := conOK_tree om_times mixed Try.func24 (by kernel_rfl) run_times
theorem cong_times : ConOK Try.prog glb 24 sg_times G_times.spec := con_times.as as_times

def sg_need : Sig := { args := [.s (.p (.own 0) 0), .s (.e (.var 0))], pre := [⟨[.e (.var 1)], 62⟩], tin := [.bool, .bool], gin := [], res := .c (.s (.p (.own 0) 0)), post := [⟨[.e (.var 0)], 62⟩], tout := [.bool], gout := [] }
def cl_need : List (Nat × Sig) := []
theorem run_need : run ⟨Try.prog, glb, cl_need⟩ [] Try.f22 sg_need (Try.f22.body.getD .skip) = tr_need := by kernel_rfl
theorem om_need : ΩOK ⟨Try.prog, glb, cl_need⟩ (specsOf Fs_need) := ΩOK_nil
theorem con_need : ConOK Try.prog glb 22 sg_need F_need.spec := conOK_tree om_need mixed Try.func22 (by kernel_rfl) run_need
theorem cong_need : ConOK Try.prog glb 22 sg_need G_need.spec := con_need.as as_need

def sg_l6tAdd : Sig := { args := [.s (.p (.own 0) 0), .ag [.e (.var 0), .e (.var 1), .e (.var 2)], .s (.e (.var 3)), .ag [.e (.var 4), .e (.var 5), .e (.var 6)]], pre := [⟨[.e (.var 7)], 56⟩], tin := [.int .i64, .int .i64, .int .i64, .int .i64, .int .i64, .int .i64, .int .i64, .bool], gin := [], res := .c (.ag [.e (.var 0), .e (.var 1), .e (.var 2)]), post := [⟨[.e (.var 3)], 56⟩], tout := [.int .i64, .int .i64, .int .i64, .bool], gout := [] }
def cl_l6tAdd : List (Nat × Sig) := [(60, sg_l2Sum)]
theorem run_l6tAdd : run ⟨Try.prog, glb, cl_l6tAdd⟩ [] Try.f43 sg_l6tAdd (Try.f43.body.getD .skip) = tr_l6tAdd := by kernel_rfl
theorem om_l6tAdd : ΩOK ⟨Try.prog, glb, cl_l6tAdd⟩ (specsOf Fs_l6tAdd) := (ΩOK_cons cong_l2Sum Try.call60 ΩOK_nil)
theorem con_l6tAdd : ConOK Try.prog glb 43 sg_l6tAdd F_l6tAdd.spec := conOK_tree om_l6tAdd mixed Try.func43 (by kernel_rfl) run_l6tAdd
theorem cong_l6tAdd : ConOK Try.prog glb 43 sg_l6tAdd G_l6tAdd.spec := con_l6tAdd.as as_l6tAdd

def sg_toFrac : Sig := { args := [.ag [.e (.var 0), .e (.var 1), .e (.var 2)]], pre := [], tin := [.int .i64, .int .i64, .int .i64], gin := [], res := .c (.ag [.e (.var 0), .e (.var 1), .e (.var 2)]), post := [], tout := [.int .i64, .int .i64, .int .i64], gout := [] }
def cl_toFrac : List (Nat × Sig) := []
theorem run_toFrac : run ⟨Try.prog, glb, cl_toFrac⟩ [] Try.f44 sg_toFrac (Try.f44.body.getD .skip) = tr_toFrac := by kernel_rfl
theorem om_toFrac : ΩOK ⟨Try.prog, glb, cl_toFrac⟩ (specsOf Fs_toFrac) := ΩOK_nil
theorem con_toFrac : ConOK Try.prog glb 44 sg_toFrac F_toFrac.spec := conOK_tree om_toFrac mixed Try.func44 (by kernel_rfl) run_toFrac

def sg_eqFrac : Sig := { args := [.ag [.e (.var 0), .e (.var 1), .e (.var 2)], .ag [.e (.var 3), .e (.var 4), .e (.var 5)]], pre := [], tin := [.int .i64, .int .i64, .int .i64, .int .i64, .int .i64, .int .i64], gin := [], res := .c (.s (.e (.var 0))), post := [], tout := [.bool], gout := [] }
def cl_eqFrac : List (Nat × Sig) := []
theorem run_eqFrac : run ⟨Try.prog, glb, cl_eqFrac⟩ [] Try.f49 sg_eqFrac (Try.f49.body.getD .skip) = tr_eqFrac := by kernel_rfl
theorem om_eqFrac : ΩOK ⟨Try.prog, glb, cl_eqFrac⟩ (specsOf Fs_eqFrac) := ΩOK_nil
theorem con_eqFrac : ConOK Try.prog glb 49 sg_eqFrac F_eqFrac.spec := conOK_tree om_eqFrac mixed Try.func49 (by kernel_rfl) run_eqFrac
theorem cong_eqFrac : ConOK Try.prog glb 49 sg_eqFrac G_eqFrac.spec := con_eqFrac.as as_eqFrac

def sg_toFracA16 : Sig := { args := [.ag [.e (.var 0), .e (.var 1), .e (.var 2), .e (.var 3), .e (.var 4), .e (.var 5), .e (.var 6), .e (.var 7), .e (.var 8), .e (.var 9), .e (.var 10), .e (.var 11), .e (.var 12), .e (.var 13), .e (.var 14), .e (.var 15), .e (.var 16), .e (.var 17), .e (.var 18), .e (.var 19), .e (.var 20), .e (.var 21), .e (.var 22), .e (.var 23), .e (.var 24), .e (.var 25), .e (.var 26), .e (.var 27), .e (.var 28), .e (.var 29), .e (.var 30), .e (.var 31), .e (.var 32), .e (.var 33), .e (.var 34), .e (.var 35), .e (.var 36), .e (.var 37), .e (.var 38), .e (.var 39), .e (.var 40), .e (.var 41), .e (.var 42), .e (.var 43), .e (.var 44), .e (.var 45), .e (.var 46), .e (.var 47)]], pre := [], tin := [.int .i64, .int .i64, .int .i64, .int .i64, .int .i64, .int .i64, .int .i64, .int .i64, .int .i64, .int .i64, .int .i64, .int .i64, .int .i64, .int .i64, .int .i64, .int .i64, .int .i64, .int .i64, .int .i64, .int .i64, .int .i64, .int .i64, .int .i64, .int .i64, .int .i64, .int .i64, .int .i64, .int .i64, .int .i64, .int .i64, .int .i64, .int .i64, .int .i64, .int .i64, .int .i64, .int .i64, .int .i64, .int .i64, .int .i64, .int .i64, .int .i64, .int .i64, .int .i64, .int .i64, .int .i64, .int .i64, .int .i64, .int .i64], gin := [], res := .c (.ag [.e (.var 0), .e (.var 1), .e (.var 2), .e (.var 3), .e (.var 4), .e (.var 5), .e (.var 6), .e (.var 7), .e (.var 8), .e (.var 9), .e (.var 10), .e (.var 11), .e (.var 12), .e (.var 13), .e (.var 14), .e (.var 15), .e (.var 16), .e (.var 17), .e (.var 18), .e (.var 19), .e (.var 20), .e (.var 21), .e (.var 22), .e (.var 23), .e (.var 24), .e (.var 25), .e (.var 26), .e (.var 27), .e (.var 28), .e (.var 29), .e (.var 30), .e (.var 31), .e (.var 32), .e (.var 33), .e (.var 34), .e (.var 35), .e (.var 36), .e (.var 37), .e (.var 38), .e (.var 39), .e (.var 40), .e (.var 41), .e (.var 42), .e (.var 43), .e (.var 44), .e (.var 45), .e (.var 46), .e (.var 47)]), post := [], tout := [.int .i64, .int .i64, .int .i64, .int .i64, .int .i64, .int .i64, .int .i64, .int .i64, .int .i64, .int .i64, .int .i64, .int .i64, .int .i64, .int .i64, .int .i64, .int .i64, .int .i64, .int .i64, .int .i64, .int .i64, .int .i64, .int .i64, .int .i64, .int .i64, .int .i64, .int .i64, .int .i64, .int .i64, .int .i64, .int .i64, .int .i64, .int .i64, .int .i64, .int .i64, .int .i64, .int .i64, .int .i64, .int .i64, .int .i64, .int .i64, .int .i64, .int .i64, .int .i64, .int .i64, .int .i64, .int .i64, .int .i64, .int .i64], gout := [] }
def cl_toFracA16 : List (Nat × Sig) := [(44, sg_toFrac)]
theorem run_toFracA16 : run ⟨Try.prog, glb, cl_toFracA16⟩ [] Try.f21 sg_toFracA16 (Try.f21.body.getD .skip) = tr_toFracA16 := by kernel_rfl
theorem om_toFracA16 : ΩOK ⟨Try.prog, glb, cl_toFracA16⟩ (specsOf Fs_toFracA16) := (ΩOK_cons con_toFrac Try.call44 ΩOK_nil)
theorem con_toFracA16 : ConOK Try.prog glb 21 sg_toFracA16 F_toFracA16.spec := conOK_tree om_toFracA16 mixed Try.func21 (by kernel_rfl) run_toFracA16

def sg_toTable : Sig := { args := [.ag [.e (.var 0), .e (.var 1), .e (.var 2), .e (.var 3), .e (.var 4), .e (.var 5), .e (.var 6), .e (.var 7), .e (.var 8), .e (.var 9), .e (.var 10), .e (.var 11), .e (.var 12), .e (.var 13), .e (.var 14), .e (.var 15), .e (.var 16), .e (.var 17), .e (.var 18), .e (.var 19), .e (.var 20), .e (.var 21), .e (.var 22), .e (.var 23), .e (.var 24), .e (.var 25), .e (.var 26), .e (.var 27), .e (.var 28), .e (.var 29), .e (.var 30), .e (.var 31), .e (.var 32), .e (.var 33), .e (.var 34), .e (.var 35), .e (.var 36), .e (.var 37), .e (.var 38), .e (.var 39), .e (.var 40), .e (.var 41), .e (.var 42), .e (.var 43), .e (.var 44), .e (.var 45), .e (.var 46), .e (.var 47)]], pre := [], tin := [.int .i64, .int .i64, .int .i64, .int .i64, .int .i64, .int .i64, .int .i64, .int .i64, .int .i64, .int .i64, .int .i64, .int .i64, .int .i64, .int .i64, .int .i64, .int .i64, .int .i64, .int .i64, .int .i64, .int .i64, .int .i64, .int .i64, .int .i64, .int .i64, .int .i64, .int .i64, .int .i64, .int .i64, .int .i64, .int .i64, .int .i64, .int .i64, .int .i64, .int .i64, .int .i64, .int .i64, .int .i64, .int .i64, .int .i64, .int .i64, .int .i64, .int .i64, .int .i64, .int .i64, .int .i64, .int .i64, .int .i64, .int .i64], gin := [], res := .c (.ag [.e (.var 0), .e (.var 1), .e (.var 2), .e (.var 3), .e (.var 4), .e (.var 5), .e (.var 6), .e (.var 7), .e (.var 8), .e (.var 9), .e (.var 10), .e (.var 11), .e (.var 12), .e (.var 13), .e (.var 14), .e (.var 15), .e (.var 16), .e (.var 17), .e (.var 18), .e (.var 19), .e (.var 20), .e (.var 21), .e (.var 22), .e (.var 23), .e (.var 24), .e (.var 25), .e (.var 26), .e (.var 27), .e (.var 28), .e (.var 29), .e (.var 30), .e (.var 31), .e (.var 32), .e (.var 33), .e (.var 34), .e (.var 35), .e (.var 36), .e (.var 37), .e (.var 38), .e (.var 39), .e (.var 40), .e (.var 41), .e (.var 42), .e (.var 43), .e (.var 44), .e (.var 45), .e (.var 46), .e (.var 47)]), post := [], tout := [.int .i64, .int .i64, .int .i64, .int .i64, .int .i64, .int .i64, .int .i64, .int .i64, .int .i64, .int .i64, .int .i64, .int .i64, .int .i64, .int .i64, .int .i64, .int .i64, .int .i64, .int .i64, .int .i64, .int .i64, .int .i64, .int .i64, .int .i64, .int .i64, .int .i64, .int .i64, .int .i64, .int .i64, .int .i64, .int .i64, .int .i64, .int .i64, .int .i64, .int .i64, .int .i64, .int .i64, .int .i64, .int .i64, .int .i64, .int .i64, .int .i64, .int .i64, .int .i64, .int .i64, .int .i64, .int .i64, .int .i64, .int .i64], gout := [] }
def cl_toTable : List (Nat × Sig) := [(21, sg_toFracA16)]
theorem run_toTable : run ⟨Try.prog, glb, cl_toTable⟩ [] Try.f8 sg_toTable (Try.f8.body.getD .skip) = tr_toTable := by kernel_rfl
theorem om_toTable : ΩOK ⟨Try.prog, glb, cl_toTable⟩ (specsOf Fs_toTable) := (ΩOK_cons con_toFracA16 Try.call21 ΩOK_nil)
theorem con_toTable : ConOK Try.prog glb 8 sg_toTable F_toTable.spec := conOK_tree om_toTable mixed Try.func8 (by kernel_rfl) run_toTable
theorem cong_toTable : ConOK Try.prog glb 8 sg_toTable G_toTable.spec := con_toTable.as as_toTable

def sg_iTableValid : Sig := { args := [.ag [.e (.var 0), .e (.var 1), .e (.var 2), .e (.var 3), .e (.var 4), .e (.var 5), .e (.var 6), .e (.var 7), .e (.var 8), .e (.var 9), .e (.var 10), .e (.var 11), .e (.var 12), .e (.var 13), .e (.var 14), .e (.var 15), .e (.var 16), .e (.var 17), .e (.var 18), .e (.var 19), .e (.var 20), .e (.var 21), .e (.var 22), .e (.var 23), .e (.var 24), .e (.var 25), .e (.var 26), .e (.var 27), .e (.var 28), .e (.var 29), .e (.var 30), .e (.var 31), .e (.var 32), .e (.var 33), .e (.var 34), .e (.var 35), .e (.var 36), .e (.var 37), .e (.var 38), .e (.var 39), .e (.var 40), .e (.var 41), .e (.var 42), .e (.var 43), .e (.var 44), .e (.var 45), .e (.var 46), .e (.var 47)]], pre := [], tin := [.int .i64, .int .i64, .int .i64, .int .i64, .int .i64, .int .i64, .int .i64, .int .i64, .int .i64, .int .i64, .int .i64, .int .i64, .int .i64, .int .i64, .int .i64, .int .i64, .int .i64, .int .i64, .int .i64, .int .i64, .int .i64, .int .i64, .int .i64, .int .i64, .int .i64, .int .i64, .int .i64, .int .i64, .int .i64, .int .i64, .int .i64, .int .i64, .int .i64, .int .i64, .int .i64, .int .i64, .int .i64, .int .i64, .int .i64, .int .i64, .int .i64, .int .i64, .int .i64, .int .i64, .int .i64, .int .i64, .int .i64, .int .i64], gin := [], res := .c (.s (.e (.var 0))), post := [], tout := [.bool], gout := [] }
def cl_iTableValid : List (Nat × Sig) := [(45, sg_realOk)]
theorem run_iTableValid : run ⟨Try.prog, glb, cl_iTableValid⟩ [] Try.f23 sg_iTableValid (Try.f23.body.getD .skip) = tr_iTableValid := by kernel_rfl
theorem om_iTableValid : ΩOK ⟨Try.prog, glb, cl_iTableValid⟩ (specsOf Fs_iTableValid) := (ΩOK_cons cong_realOk Try.call45 ΩOK_nil)
theorem con_iTableValid : ConOK Try.prog glb 23 sg_iTableValid F_iTableValid.spec := conOK_tree om_iTableValid mixed Try.func23 (by kernel_rfl) run_iTableValid
theorem cong_iTableValid : ConOK Try.prog glb 23 sg_iTableValid G_iTableValid.spec := con_iTableValid.as as_iTableValid

def sg_sTableValid : Sig := { args := [.ag [.e (.var 0), .e (.var 1), .e (.var 2), .e (.var 3), .e (.var 4), .e (.var 5), .e (.var 6), .e (.var 7), .e (.var 8), .e (.var 9), .e (.var 10), .e (.var 11), .e (.var 12), .e (.var 13), .e (.var 14), .e (.var 15), .e (.var 16), .e (.var 17), .e (.var 18), .e (.var 19), .e (.var 20), .e (.var 21), .e (.var 22), .e (.var 23), .e (.var 24), .e (.var 25), .e (.var 26), .e (.var 27), .e (.var 28), .e (.var 29), .e (.var 30), .e (.var 31), .e (.var 32), .e (.var 33), .e (.var 34), .e (.var 35), .e (.var 36), .e (.var 37), .e (.var 38), .e (.var 39), .e (.var 40), .e (.var 41), .e (.var 42), .e (.var 43), .e (.var 44), .e (.var 45), .e (.var 46), .e (.var 47)]], pre := [], tin := [.int .i64, .int .i64, .int .i64, .int .i64, .int .i64, .int .i64, .int .i64, .int .i64, .int .i64, .int .i64, .int .i64, .int .i64, .int .i64, .int .i64, .int .i64, .int .i64, .int .i64, .int .i64, .int .i64, .int .i64, .int .i64, .int .i64, .int .i64, .int .i64, .int .i64, .int .i64, .int .i64, .int .i64, .int .i64, .int .i64, .int .i64, .int .i64, .int .i64, .int .i64, .int .i64, .int .i64, .int .i64, .int .i64, .int .i64, .int .i64, .int .i64, .int .i64, .int .i64, .int .i64, .int .i64, .int .i64, .int .i64, .int .i64], gin := [], res := .c (.s (.e (.var 0))), post := [], tout := [.bool], gout := [] }
def cl_sTableValid : List (Nat × Sig) := [(41, sg_sFracValid)]
theorem run_sTableValid : run ⟨Try.prog, glb, cl_sTableValid⟩ [] Try.f18 sg_sTableValid (Try.f18.body.getD .skip) = tr_sTableValid := by kernel_rfl
theorem om_sTableValid : ΩOK ⟨Try.prog, glb, cl_sTableValid⟩ (specsOf Fs_sTableValid) := (ΩOK_cons cong_sFracValid Try.call41 ΩOK_nil)
theorem con_sTableValid : ConOK Try.prog glb 18 sg_sTableValid F_sTableValid.spec := conOK_tree om_sTableValid mixed Try.func18 (by kernel_rfl) run_sTableValid
theorem cong_sTableValid : ConOK Try.prog glb 18 sg_sTableValid G_sTableValid.spec := con_sTableValid.as as_sTableValid

def sg_l6tOf0 : Sig := { args := [.ag [.e (.var 0), .e (.var 1), .e (.var 2), .e (.var 3), .e (.var 4), .e (.var 5), .e (.var 6), .e (.var 7), .e (.var 8), .e (.var 9), .e (.var 10), .e (.var 11), .e (.var 12), .e (.var 13), .e (.var 14), .e (.var 15), .e (.var 16), .e (.var 17), .e (.var 18), .e (.var 19), .e (.var 20), .e (.var 21), .e (.var 22), .e (.var 23), .e (.var 24), .e (.var 25), .e (.var 26), .e (.var 27), .e (.var 28), .e (.var 29), .e (.var 30), .e (.var 31), .e (.var 32), .e (.var 33), .e (.var 34), .e (.var 35), .e (.var 36), .e (.var 37), .e (.var 38), .e (.var 39), .e (.var 40), .e (.var 41), .e (.var 42), .e (.var 43), .e (.var 44), .e (.var 45), .e (.var 46), .e (.var 47)], .s (.e (.int .i64 (0)))], pre := [], tin := [.int .i64, .int .i64, .int .i64, .int .i64, .int .i64, .int .i64, .int .i64, .int .i64, .int .i64, .int .i64, .int .i64, .int .i64, .int .i64, .int .i64, .int .i64, .int .i64, .int .i64, .int .i64, .int .i64, .int .i64, .int .i64, .int .i64, .int .i64, .int .i64, .int .i64, .int .i64, .int .i64, .int .i64, .int .i64, .int .i64, .int .i64, .int .i64, .int .i64, .int .i64, .int .i64, .int .i64, .int .i64, .int .i64, .int .i64, .int .i64, .int .i64, .int .i64, .int .i64, .int .i64, .int .i64, .int .i64, .int .i64, .int .i64], gin := [], res := .c (.ag [.e (.var 0), .e (.var 1), .e (.var 2), .e (.var 3), .e (.var 4), .e (.var 5), .e (.var 6), .e (.var 7), .e (.var 8), .e (.var 9), .e (.var 10), .e (.var 11)]), post := [], tout := [.int .i64, .int .i64, .int .i64, .int .i64, .int .i64, .int .i64, .int .i64, .int .i64, .int .i64, .int .i64, .int .i64, .int .i64], gout := [] }
def cl_l6tOf0 : List (Nat × Sig) := []
theorem run_l6tOf0 : run ⟨Try.prog, glb, cl_l6tOf0⟩ [] Try.f20 sg_l6tOf0 (Try.f20.body.getD .skip) = tr_l6tOf0 := by kernel_rfl
theorem om_l6tOf0 : ΩOK ⟨Try.prog, glb, cl_l6tOf0⟩ (specsOf Fs_l6tOf0) := ΩOK_nil
theorem con_l6tOf0 : ConOK Try.prog glb 20 sg_l6tOf0 F_l6tOf0.spec := conOK_tree om_l6tOf0 mixed Try.func20 (by kernel_rfl) run_l6tOf0

def sg_l6tOf1 : Sig := { args := [.ag [.e (.var 0), .e (.var 1), .e (.var 2), .e (.var 3), .e (.var 4), .e (.var 5), .e (.var 6), .e (.var 7), .e (.var 8), .e (.var 9), .e (.var 10), .e (.var 11), .e (.var 12), .e (.var 13), .e (.var 14), .e (.var 15), .e (.var 16), .e (.var 17), .e (.var 18), .e (.var 19), .e (.var 20), .e (.var 21), .e (.var 22), .e (.var 23), .e (.var 24), .e (.var 25), .e (.var 26), .e (.var 27), .e (.var 28), .e (.var 29), .e (.var 30), .e (.var 31), .e (.var 32), .e (.var 33), .e (.var 34), .e (.var 35), .e (.var 36), .e (.var 37), .e (.var 38), .e (.var 39), .e (.var 40), .e (.var 41), .e (.var 42), .e (.var 43), .e (.var 44), .e (.var 45), .e (.var 46), .e (.var 47)], .s (.e (.int .i64 (1)))], pre := [], tin := [.int .i64, .int .i64, .int .i64, .int .i64, .int .i64, .int .i64, .int .i64, .int .i64, .int .i64, .int .i64, .int .i64, .int .i64, .int .i64, .int .i64, .int .i64, .int .i64, .int .i64, .int .i64, .int .i64, .int .i64, .int .i64, .int .i64, .int .i64, .int .i64, .int .i64, .int .i64, .int .i64, .int .i64, .int .i64, .int .i64, .int .i64, .int .i64, .int .i64, .int .i64, .int .i64, .int .i64, .int .i64, .int .i64, .int .i64, .int .i64, .int .i64, .int .i64, .int .i64, .int .i64, .int .i64, .int .i64, .int .i64, .int .i64], gin := [], res := .c (.ag [.e (.var 0), .e (.var 1), .e (.var 2), .e (.var 3), .e (.var 4), .e (.var 5), .e (.var 6), .e (.var 7), .e (.var 8), .e (.var 9), .e (.var 10), .e (.var 11)]), post := [], tout := [.int .i64, .int .i64, .int .i64, .int .i64, .int .i64, .int .i64, .int .i64, .int .i64, .int .i64, .int .i64, .int .i64, .int .i64], gout := [] }
def cl_l6tOf1 : List (Nat × Sig) := []
theorem run_l6tOf1 : run ⟨Try.prog, glb, cl_l6tOf1⟩ [] Try.f20 sg_l6tOf1 (Try.f20.body.getD .skip) = tr_l6tOf1 := by kernel_rfl
theorem om_l6tOf1 : ΩOK ⟨Try.prog, glb, cl_l6tOf1⟩ (specsOf Fs_l6tOf1) := ΩOK_nil
theorem con_l6tOf1 : ConOK Try.prog glb 20 sg_l6tOf1 F_l6tOf1.spec := conOK_tree om_l6tOf1 mixed Try.func20 (by kernel_rfl) run_l6tOf1

def sg_l6tOf2 : Sig := { args := [.ag [.e (.var 0), .e (.var 1), .e (.var 2), .e (.var 3), .e (.var 4), .e (.var 5), .e (.var 6), .e (.var 7), .e (.var 8), .e (.var 9), .e (.var 10), .e (.var 11), .e (.var 12), .e (.var 13), .e (.var 14), .e (.var 15), .e (.var 16), .e (.var 17), .e (.var 18), .e (.var 19), .e (.var 20), .e (.var 21), .e (.var 22), .e (.var 23), .e (.var 24), .e (.var 25), .e (.var 26), .e (.var 27), .e (.var 28), .e (.var 29), .e (.var 30), .e (.var 31), .e (.var 32), .e (.var 33), .e (.var 34), .e (.var 35), .e (.var 36), .e (.var 37), .e (.var 38), .e (.var 39), .e (.var 40), .e (.var 41), .e (.var 42), .e (.var 43), .e (.var 44), .e (.var 45), .e (.var 46), .e (.var 47)], .s (.e (.int .i64 (2)))], pre := [], tin := [.int .i64, .int .i64, .int .i64, .int .i64, .int .i64, .int .i64, .int .i64, .int .i64, .int .i64, .int .i64, .int .i64, .int .i64, .int .i64, .int .i64, .int .i64, .int .i64, .int .i64, .int .i64, .int .i64, .int .i64, .int .i64, .int .i64, .int .i64, .int .i64, .int .i64, .int .i64, .int .i64, .int .i64, .int .i64, .int .i64, .int .i64, .int .i64, .int .i64, .int .i64, .int .i64, .int .i64, .int .i64, .int .i64, .int .i64, .int .i64, .int .i64, .int .i64, .int .i64, .int .i64, .int .i64, .int .i64, .int .i64, .int .i64], gin := [], res := .c (.ag [.e (.var 0), .e (.var 1), .e (.var 2), .e (.var 3), .e (.var 4), .e (.var 5), .e (.var 6), .e (.var 7), .e (.var 8), .e (.var 9), .e (.var 10), .e (.var 11)]), post := [], tout := [.int .i64, .int .i64, .int .i64, .int .i64, .int .i64, .int .i64, .int .i64, .int .i64, .int .i64, .int .i64, .int .i64, .int .i64], gout := [] }
def cl_l6tOf2 : List (Nat × Sig) := []
theorem run_l6tOf2 : run ⟨Try.prog, glb, cl_l6tOf2⟩ [] Try.f20 sg_l6tOf2 (Try.f20.body.getD .skip) = tr_l6tOf2 := by kernel_rfl
theorem om_l6tOf2 : ΩOK ⟨Try.prog, glb, cl_l6tOf2⟩ (specsOf Fs_l6tOf2) := ΩOK_nil
theorem con_l6tOf2 : ConOK Try.prog glb 20 sg_l6tOf2 F_l6tOf2.spec := conOK_tree om_l6tOf2 mixed Try.func20 (by kernel_rfl) run_l6tOf2

def sg_l6tOf3 : Sig := { args := [.ag [.e (.var 0), .e (.var 1), .e (.var 2), .e (.var 3), .e (.var 4), .e (.var 5), .e (.var 6), .e (.var 7), .e (.var 8), .e (.var 9), .e (.var 10), .e (.var 11), .e (.var 12), .e (.var 13), .e (.var 14), .e (.var 15), .e (.var 16), .e (.var 17), .e (.var 18), .e (.var 19), .e (.var 20), .e (.var 21), .e (.var 22), .e (.var 23), .e (.var 24), .e (.var 25), .e (.var 26), .e (.var 27), .e (.var 28), .e (.var 29), .e (.var 30), .e (.var 31), .e (.var 32), .e (.var 33), .e (.var 34), .e (.var 35), .e (.var 36), .e (.var 37), .e (.var 38), .e (.var 39), .e (.var 40), .e (.var 41), .e (.var 42), .e (.var 43), .e (.var 44), .e (.var 45), .e (.var 46), .e (.var 47)], .s (.e (.int .i64 (3)))], pre := [], tin := [.int .i64, .int .i64, .int .i64, .int .i64, .int .i64, .int .i64, .int .i64, .int .i64, .int .i64, .int .i64, .int .i64, .int .i64, .int .i64, .int .i64, .int .i64, .int .i64, .int .i64, .int .i64, .int .i64, .int .i64, .int .i64, .int .i64, .int .i64, .int .i64, .int .i64, .int .i64, .int .i64, .int .i64, .int .i64, .int .i64, .int .i64, .int .i64, .int .i64, .int .i64, .int .i64, .int .i64, .int .i64, .int .i64, .int .i64, .int .i64, .int .i64, .int .i64, .int .i64, .int .i64, .int .i64, .int .i64, .int .i64, .int .i64], gin := [], res := .c (.ag [.e (.var 0), .e (.var 1), .e (.var 2), .e (.var 3), .e (.var 4), .e (.var 5), .e (.var 6), .e (.var 7), .e (.var 8), .e (.var 9), .e (.var 10), .e (.var 11)]), post := [], tout := [.int .i64, .int .i64, .int .i64, .int .i64, .int .i64, .int .i64, .int .i64, .int .i64, .int .i64, .int .i64, .int .i64, .int .i64], gout := [] }
def cl_l6tOf3 : List (Nat × Sig) := []
theorem run_l6tOf3 : run ⟨Try.prog, glb, cl_l6tOf3⟩ [] Try.f20 sg_l6tOf3 (Try.f20.body.getD .skip) = tr_l6tOf3 := by kernel_rfl
theorem om_l6tOf3 : ΩOK ⟨Try.prog, glb, cl_l6tOf3⟩ (specsOf Fs_l6tOf3) := ΩOK_nil
theorem con_l6tOf3 : ConOK Try.prog glb 20 sg_l6tOf3 F_l6tOf3.spec := conOK_tree om_l6tOf3 mixed Try.func20 (by kernel_rfl) run_l6tOf3

def sg_l6tRow : Sig := { args := [.s (.p (.own 0) 0), .ag [.e (.var 0), .e (.var 1), .e (.var 2), .e (.var 3), .e (.var 4), .e (.var 5), .e (.var 6), .e (.var 7), .e (.var 8), .e (.var 9), .e (.var 10), .e (.var 11)], .ag [.e (.var 12), .e (.var 13), .e (.var 14), .e (.var 15), .e (.var 16), .e (.var 17), .e (.var 18), .e (.var 19), .e (.var 20), .e (.var 21), .e (.var 22), .e (.var 23)]], pre := [⟨[.e (.var 24)], 56⟩], tin := [.int .i64, .int .i64, .int .i64, .int .i64, .int .i64, .int .i64, .int .i64, .int .i64, .int .i64, .int .i64, .int .i64, .int .i64, .int .i64, .int .i64, .int .i64, .int .i64, .int .i64, .int .i64, .int .i64, .int .i64, .int .i64, .int .i64, .int .i64, .int .i64, .bool], gin := [], res := .c (.ag [.e (.var 0), .e (.var 1), .e (.var 2)]), post := [⟨[.e (.var 3)], 56⟩], tout := [.int .i64, .int .i64, .int .i64, .bool], gout := [] }
def cl_l6tRow : List (Nat × Sig) := [(42, sg_sFracTimes), (43, sg_l6tAdd)]
theorem run_l6tRow : run ⟨Try.prog, glb, cl_l6tRow⟩ [] Try.f19 sg_l6tRow (Try.f19.body.getD .skip) = tr_l6tRow := by kernel_rfl
theorem om_l6tRow : ΩOK ⟨Try.prog, glb, cl_l6tRow⟩ (specsOf Fs_l6tRow) := (ΩOK_cons cong_sFracTimes Try.call42 (ΩOK_cons cong_l6tAdd Try.call43 ΩOK_nil))
theorem con_l6tRow : ConOK Try.prog glb 19 sg_l6tRow F_l6tRow.spec := conOK_tree om_l6tRow mixed Try.func19 (by kernel_rfl) run_l6tRow
theorem cong_l6tRow : ConOK Try.prog glb 19 sg_l6tRow G_l6tRow.spec := con_l6tRow.as as_l6tRow

def sg_toFracA4 : Sig := { args := [.ag [.e (.var 0), .e (.var 1), .e (.var 2), .e (.var 3), .e (.var 4), .e (.var 5), .e (.var 6), .e (.var 7), .e (.var 8), .e (.var 9), .e (.var 10), .e (.var 11)]], pre := [], tin := [.int .i64, .int .i64, .int .i64, .int .i64, .int .i64, .int .i64, .int .i64, .int .i64, .int .i64, .int .i64, .int .i64, .int .i64], gin := [], res := .c (.ag [.e (.var 0), .e (.var 1), .e (.var 2), .e (.var 3), .e (.var 4), .e (.var 5), .e (.var 6), .e (.var 7), .e (.var 8), .e (.var 9), .e (.var 10), .e (.var 11)]), post := [], tout := [.int .i64, .int .i64, .int .i64, .int .i64, .int .i64, .int .i64, .int .i64, .int .i64, .int .i64, .int .i64, .int .i64, .int .i64], gout := [] }
def cl_toFracA4 : List (Nat × Sig) := [(44, sg_toFrac)]
theorem run_toFracA4 : run ⟨Try.prog, glb, cl_toFracA4⟩ [] Try.f34 sg_toFracA4 (Try.f34.body.getD .skip) = tr_toFracA4 := by kernel_rfl
theorem om_toFracA4 : ΩOK ⟨Try.prog, glb, cl_toFracA4⟩ (specsOf Fs_toFracA4) := (ΩOK_cons con_toFrac Try.call44 ΩOK_nil)
theorem con_toFracA4 : ConOK Try.prog glb 34 sg_toFracA4 F_toFracA4.spec := conOK_tree om_toFracA4 mixed Try.func34 (by kernel_rfl) run_toFracA4

def sg_toStokes : Sig := { args := [.ag [.e (.var 0), .e (.var 1), .e (.var 2), .e (.var 3), .e (.var 4), .e (.var 5), .e (.var 6), .e (.var 7), .e (.var 8), .e (.var 9), .e (.var 10), .e (.var 11)]], pre := [], tin := [.int .i64, .int .i64, .int .i64, .int .i64, .int .i64, .int .i64, .int .i64, .int .i64, .int .i64, .int .i64, .int .i64, .int .i64], gin := [], res := .c (.ag [.e (.var 0), .e (.var 1), .e (.var 2), .e (.var 3), .e (.var 4), .e (.var 5), .e (.var 6), .e (.var 7), .e (.var 8), .e (.var 9), .e (.var 10), .e (.var 11)]), post := [], tout := [.int .i64, .int .i64, .int .i64, .int .i64, .int .i64, .int .i64, .int .i64, .int .i64, .int .i64, .int .i64, .int .i64, .int .i64], gout := [] }
def cl_toStokes : List (Nat × Sig) := [(34, sg_toFracA4)]
theorem run_toStokes : run ⟨Try.prog, glb, cl_toStokes⟩ [] Try.f14 sg_toStokes (Try.f14.body.getD .skip) = tr_toStokes := by kernel_rfl
theorem om_toStokes : ΩOK ⟨Try.prog, glb, cl_toStokes⟩ (specsOf Fs_toStokes) := (ΩOK_cons con_toFracA4 Try.call34 ΩOK_nil)
theorem con_toStokes : ConOK Try.prog glb 14 sg_toStokes F_toStokes.spec := conOK_tree om_toStokes mixed Try.func14 (by kernel_rfl) run_toStokes
theorem cong_toStokes : ConOK Try.prog glb 14 sg_toStokes G_toStokes.spec := con_toStokes.as as_toStokes

def sg_eqFracA4 : Sig := { args := [.ag [.e (.var 0), .e (.var 1), .e (.var 2), .e (.var 3), .e (.var 4), .e (.var 5), .e (.var 6), .e (.var 7), .e (.var 8), .e (.var 9), .e (.var 10), .e (.var 11)], .ag [.e (.var 12), .e (.var 13), .e (.var 14), .e (.var 15), .e (.var 16), .e (.var 17), .e (.var 18), .e (.var 19), .e (.var 20), .e (.var 21), .e (.var 22), .e (.var 23)]], pre := [], tin := [.int .i64, .int .i64, .int .i64, .int .i64, .int .i64, .int .i64, .int .i64, .int .i64, .int .i64, .int .i64, .int .i64, .int .i64, .int .i64, .int .i64, .int .i64, .int .i64, .int .i64, .int .i64, .int .i64, .int .i64, .int .i64, .int .i64, .int .i64, .int .i64], gin := [], res := .c (.s (.e (.var 0))), post := [], tout := [.bool], gout := [] }
def cl_eqFracA4 : List (Nat × Sig) := [(49, sg_eqFrac)]
theorem run_eqFracA4 : run ⟨Try.prog, glb, cl_eqFracA4⟩ [] Try.f37 sg_eqFracA4 (Try.f37.body.getD .skip) = tr_eqFracA4 := by kernel_rfl
theorem om_eqFracA4 : ΩOK ⟨Try.prog, glb, cl_eqFracA4⟩ (specsOf Fs_eqFracA4) := (ΩOK_cons cong_eqFrac Try.call49 ΩOK_nil)
theorem con_eqFracA4 : ConOK Try.prog glb 37 sg_eqFracA4 F_eqFracA4.spec := conOK_tree om_eqFracA4 mixed Try.func37 (by kernel_rfl) run_eqFracA4
theorem cong_eqFracA4 : ConOK Try.prog glb 37 sg_eqFracA4 G_eqFracA4.spec := con_eqFracA4.as as_eqFracA4

def sg_eqStokes : Sig := { args := [.ag [.e (.var 0), .e (.var 1), .e (.var 2), .e (.var 3), .e (.var 4), .e (.var 5), .e (.var 6), .e (.var 7), .e (.var 8), .e (.var 9), .e (.var 10), .e (.var 11)], .ag [.e (.var 12), .e (.var 13), .e (.var 14), .e (.var 15), .e (.var 16), .e (.var 17), .e (.var 18), .e (.var 19), .e (.var 20), .e (.var 21), .e (.var 22), .e (.var 23)]], pre := [], tin := [.int .i64, .int .i64, .int .i64, .int .i64, .int .i64, .int .i64, .int .i64, .int .i64, .int .i64, .int .i64, .int .i64, .int .i64, .int .i64, .int .i64, .int .i64, .int .i64, .int .i64, .int .i64, .int .i64, .int .i64, .int .i64, .int .i64, .int .i64, .int .i64], gin := [], res := .c (.s (.e (.var 0))), post := [], tout := [.bool], gout := [] }
def cl_eqStokes : List (Nat × Sig) := [(37, sg_eqFracA4)]
theorem run_eqStokes : run ⟨Try.prog, glb, cl_eqStokes⟩ [] Try.f16 sg_eqStokes (Try.f16.body.getD .skip) = tr_eqStokes := by kernel_rfl
theorem om_eqStokes : ΩOK ⟨Try.prog, glb, cl_eqStokes⟩ (specsOf Fs_eqStokes) := (ΩOK_cons cong_eqFracA4 Try.call37 ΩOK_nil)
theorem con_eqStokes : ConOK Try.prog glb 16 sg_eqStokes F_eqStokes.spec := conOK_tree om_eqStokes mixed Try.func16 (by kernel_rfl) run_eqStokes
theorem cong_eqStokes : ConOK Try.prog glb 16 sg_eqStokes G_eqStokes.spec := con_eqStokes.as as_eqStokes

def sg_gotStokes : Sig := { args := [.s (.p (.own 0) 0), .ag [.e (.var 0), .e (.var 1), .e (.var 2), .e (.var 3), .e (.var 4), .e (.var 5), .e (.var 6), .e (.var 7), .e (.var 8), .e (.var 9), .e (.var 10), .e (.var 11)]], pre := [⟨[.e (.var 12)], 62⟩], tin := [.int .i64, .int .i64, .int .i64, .int .i64, .int .i64, .int .i64, .int .i64, .int .i64, .int .i64, .int .i64, .int .i64, .int .i64, .bool], gin := [], res := .tu [.ag [.e (.var 0), .e (.var 1), .e (.var 2), .e (.var 3), .e (.var 4), .e (.var 5), .e (.var 6), .e (.var 7), .e (.var 8), .e (.var 9), .e (.var 10), .e (.var 11)], .s (.e (.var 12))], post := [⟨[.e (.var 13)], 62⟩], tout := [.int .i64, .int .i64, .int .i64, .int .i64, .int .i64, .int .i64, .int .i64, .int .i64, .int .i64, .int .i64, .int .i64, .int .i64, .bool, .bool], gout := [] }
def cl_gotStokes : List (Nat × Sig) := []
theorem run_gotStokes : run ⟨Try.prog, glb, cl_gotStokes⟩ [] Try.f36 sg_gotStokes (Try.f36.body.getD .skip) = tr_gotStokes := by kernel_rfl
theorem om_gotStokes : ΩOK ⟨Try.prog, glb, cl_gotStokes⟩ (specsOf Fs_gotStokes) := ΩOK_nil
theorem con_gotStokes : ConOK Try.prog glb 36 sg_gotStokes F_gotStokes.spec := conOK_tree om_gotStokes mixed Try.func36 (by kernel_rfl) run_gotStokes
theorem cong_gotStokes : ConOK Try.prog glb 36 sg_gotStokes G_gotStokes.spec := con_gotStokes.as as_gotStokes

def sg_iStokesValid : Sig := { args := [.ag [.e (.var 0), .e (.var 1), .e (.var 2), .e (.var 3), .e (.var 4), .e (.var 5), .e (.var 6), .e (.var 7), .e (.var 8), .e (.var 9), .e (.var 10), .e (.var 11)]], pre := [], tin := [.int .i64, .int .i64, .int .i64, .int .i64, .int .i64, .int .i64, .int .i64, .int .i64, .int .i64, .int .i64, .int .i64, .int .i64], gin := [], res := .c (.s (.e (.var 0))), post := [], tout := [.bool], gout := [] }
def cl_iStokesValid : List (Nat × Sig) := [(45, sg_realOk)]
theorem run_iStokesValid : run ⟨Try.prog, glb, cl_iStokesValid⟩ [] Try.f35 sg_iStokesValid (Try.f35.body.getD .skip) = tr_iStokesValid := by kernel_rfl
theorem om_iStokesValid : ΩOK ⟨Try.prog, glb, cl_iStokesValid⟩ (specsOf Fs_iStokesValid) := (ΩOK_cons cong_realOk Try.call45 ΩOK_nil)
theorem con_iStokesValid : ConOK Try.prog glb 35 sg_iStokesValid F_iStokesValid.spec := conOK_tree om_iStokesValid mixed Try.func35 (by kernel_rfl) run_iStokesValid
theorem cong_iStokesValid : ConOK Try.prog glb 35 sg_iStokesValid G_iStokesValid.spec := con_iStokesValid.as as_iStokesValid

def sg_sStokesValid : Sig := { args := [.ag [.e (.var 0), .e (.var 1), .e (.var 2), .e (.var 3), .e (.var 4), .e (.var 5), .e (.var 6), .e (.var 7), .e (.var 8), .e (.var 9), .e (.var 10), .e (.var 11)]], pre := [], tin := [.int .i64, .int .i64, .int .i64, .int .i64, .int .i64, .int .i64, .int .i64, .int .i64, .int .i64, .int .i64, .int .i64, .int .i64], gin := [], res := .c (.s (.e (.var 0))), post := [], tout := [.bool], gout := [] }
def cl_sStokesValid : List (Nat × Sig) := [(41, sg_sFracValid)]
theorem run_sStokesValid : run ⟨Try.prog, glb, cl_sStokesValid⟩ [] Try.f33 sg_sStokesValid (Try.f33.body.getD .skip) = tr_sStokesValid := by kernel_rfl
theorem om_sStokesValid : ΩOK ⟨Try.prog, glb, cl_sStokesValid⟩ (specsOf Fs_sStokesValid) := (ΩOK_cons cong_sFracValid Try.call41 ΩOK_nil)
theorem con_sStokesValid : ConOK Try.prog glb 33 sg_sStokesValid F_sStokesValid.spec := conOK_tree om_sStokesValid mixed Try.func33 (by kernel_rfl) run_sStokesValid
theorem cong_sStokesValid : ConOK Try.prog glb 33 sg_sStokesValid G_sStokesValid.spec := con_sStokesValid.as as_sStokesValid

def sg_iTableApply : Sig := { args := [.ag [.e (.var 0), .e (.var 1), .e (.var 2), .e (.var 3), .e (.var 4), .e (.var 5), .e (.var 6), .e (.var 7), .e (.var 8), .e (.var 9), .e (.var 10), .e (.var 11), .e (.var 12), .e (.var 13), .e (.var 14), .e (.var 15), .e (.var 16), .e (.var 17), .e (.var 18), .e (.var 19), .e (.var 20), .e (.var 21), .e (.var 22), .e (.var 23), .e (.var 24), .e (.var 25), .e (.var 26), .e (.var 27), .e (.var 28), .e (.var 29), .e (.var 30), .e (.var 31), .e (.var 32), .e (.var 33), .e (.var 34), .e (.var 35), .e (.var 36), .e (.var 37), .e (.var 38), .e (.var 39), .e (.var 40), .e (.var 41), .e (.var 42), .e (.var 43), .e (.var 44), .e (.var 45), .e (.var 46), .e (.var 47)], .ag [.e (.var 48), .e (.var 49), .e (.var 50), .e (.var 51), .e (.var 52), .e (.var 53), .e (.var 54), .e (.var 55), .e (.var 56), .e (.var 57), .e (.var 58), .e (.var 59)]], pre := [], tin := [.int .i64, .int .i64, .int .i64, .int .i64, .int .i64, .int .i64, .int .i64, .int .i64, .int .i64, .int .i64, .int .i64, .int .i64, .int .i64, .int .i64, .int .i64, .int .i64, .int .i64, .int .i64, .int .i64, .int .i64, .int .i64, .int .i64, .int .i64, .int .i64, .int .i64, .int .i64, .int .i64, .int .i64, .int .i64, .int .i64, .int .i64, .int .i64, .int .i64, .int .i64, .int .i64, .int .i64, .int .i64, .int .i64, .int .i64, .int .i64, .int .i64, .int .i64, .int .i64, .int .i64, .int .i64, .int .i64, .int .i64, .int .i64, .int .i64, .int .i64, .int .i64, .int .i64, .int .i64, .int .i64, .int .i64, .int .i64, .int .i64, .int .i64, .int .i64, .int .i64], gin := [], res := .tu [.ag [.e (.var 0), .e (.var 1), .e (.var 2), .e (.var 3), .e (.var 4), .e (.var 5), .e (.var 6), .e (.var 7), .e (.var 8), .e (.var 9), .e (.var 10), .e (.var 11)], .s (.e (.var 12))], post := [], tout := [.int .i64, .int .i64, .int .i64, .int .i64, .int .i64, .int .i64, .int .i64, .int .i64, .int .i64, .int .i64, .int .i64, .int .i64, .bool], gout := [] }
def cl_iTableApply : List (Nat × Sig) := [(23, sg_iTableValid), (35, sg_iStokesValid), (22, sg_need), (24, sg_times), (25, sg_add), (36, sg_gotStokes)]
theorem run_iTableApply : run ⟨Try.prog, glb, cl_iTableApply⟩ [] Try.f15 sg_iTableApply (Try.f15.body.getD .skip) = tr_iTableApply := by kernel_rfl
theorem om_iTableApply : ΩOK ⟨Try.prog, glb, cl_iTableApply⟩ (specsOf Fs_iTableApply) := (ΩOK_cons cong_iTableValid Try.call23 (ΩOK_cons cong_iStokesValid Try.call35 (ΩOK_cons cong_need Try.call22 (ΩOK_cons cong_times Try.call24 (ΩOK_cons cong_add Try.call25 (ΩOK_cons cong_gotStokes Try.call36 ΩOK_nil))))))
theorem con_iTableApply : ConOK Try.prog glb 15 sg_iTableApply F_iTableApply.spec := conOK_tree om_iTableApply mixed Try.func15 (by kernel_rfl) run_iTableApply
theorem cong_iTableApply : ConOK Try.prog glb 15 sg_iTableApply G_iTableApply.spec := con_iTableApply.as as_iTableApply

def sg_sTableApply : Sig := { args := [.ag [.e (.var 0), .e (.var 1), .e (.var 2), .e (.var 3), .e (.var 4), .e (.var 5), .e (.var 6), .e (.var 7), .e (.var 8), .e (.var 9), .e (.var 10), .e (.var 11), .e (.var 12), .e (.var 13), .e (.var 14), .e (.var 15), .e (.var 16), .e (.var 17), .e (.var 18), .e (.var 19), .e (.var 20), .e (.var 21), .e (.var 22), .e (.var 23), .e (.var 24), .e (.var 25), .e (.var 26), .e (.var 27), .e (.var 28), .e (.var 29), .e (.var 30), .e (.var 31), .e (.var 32), .e (.var 33), .e (.var 34), .e (.var 35), .e (.var 36), .e (.var 37), .e (.var 38), .e (.var 39), .e (.var 40), .e (.var 41), .e (.var 42), .e (.var 43), .e (.var 44), .e (.var 45), .e (.var 46), .e (.var 47)], .ag [.e (.var 48), .e (.var 49), .e (.var 50), .e (.var 51), .e (.var 52), .e (.var 53), .e (.var 54), .e (.var 55), .e (.var 56), .e (.var 57), .e (.var 58), .e (.var 59)]], pre := [], tin := [.int .i64, .int .i64, .int .i64, .int .i64, .int .i64, .int .i64, .int .i64, .int .i64, .int .i64, .int .i64, .int .i64, .int .i64, .int .i64, .int .i64, .int .i64, .int .i64, .int .i64, .int .i64, .int .i64, .int .i64, .int .i64, .int .i64, .int .i64, .int .i64, .int .i64, .int .i64, .int .i64, .int .i64, .int .i64, .int .i64, .int .i64, .int .i64, .int .i64, .int .i64, .int .i64, .int .i64, .int .i64, .int .i64, .int .i64, .int .i64, .int .i64, .int .i64, .int .i64, .int .i64, .int .i64, .int .i64, .int .i64, .int .i64, .int .i64, .int .i64, .int .i64, .int .i64, .int .i64, .int .i64, .int .i64, .int .i64, .int .i64, .int .i64, .int .i64, .int .i64], gin := [], res := .tu [.ag [.e (.var 0), .e (.var 1), .e (.var 2), .e (.var 3), .e (.var 4), .e (.var 5), .e (.var 6), .e (.var 7), .e (.var 8), .e (.var 9), .e (.var 10), .e (.var 11)], .s (.e (.var 12))], post := [], tout := [.int .i64, .int .i64, .int .i64, .int .i64, .int .i64, .int .i64, .int .i64, .int .i64, .int .i64, .int .i64, .int .i64, .int .i64, .bool], gout := [] }
def cl_sTableApply : List (Nat × Sig) := [(18, sg_sTableValid), (33, sg_sStokesValid), (20, sg_l6tOf0), (20, sg_l6tOf1), (20, sg_l6tOf2), (20, sg_l6tOf3), (19, sg_l6tRow)]
theorem run_sTableApply : run ⟨Try.prog, glb, cl_sTableApply⟩ [] Try.f13 sg_sTableApply (Try.f13.body.getD .skip) = tr_sTableApply := by kernel_rfl
theorem om_sTableApply : ΩOK ⟨Try.prog, glb, cl_sTableApply⟩ (specsOf Fs_sTableApply) := (ΩOK_cons cong_sTableValid Try.call18 (ΩOK_cons cong_sStokesValid Try.call33 (ΩOK_cons con_l6tOf0 Try.call20 (ΩOK_cons con_l6tOf1 Try.call20 (ΩOK_cons con_l6tOf2 Try.call20 (ΩOK_cons con_l6tOf3 Try.call20 (ΩOK_cons cong_l6tRow Try.call19 ΩOK_nil)))))))
theorem con_sTableApply : ConOK Try.prog glb 13 sg_sTableApply F_sTableApply.spec := conOK_tree om_sTableApply mixed Try.func13 (by kernel_rfl) run_sTableApply
theorem cong_sTableApply : ConOK Try.prog glb 13 sg_sTableApply G_sTableApply.spec := con_sTableApply.as as_sTableApply

def sg_FnExactTableApply : Sig := { args := [.ag [.e (.var 0), .e (.var 1), .e (.var 2), .e (.var 3), .e (.var 4), .e (.var 5), .e (.var 6), .e (.var 7), .e (.var 8), .e (.var 9), .e (.var 10), .e (.var 11), .e (.var 12), .e (.var 13), .e (.var 14), .e (.var 15), .e (.var 16), .e (.var 17), .e (.var 18), .e (.var 19), .e (.var 20), .e (.var 21), .e (.var 22), .e (.var 23), .e (.var 24), .e (.var 25), .e (.var 26), .e (.var 27), .e (.var 28), .e (.var 29), .e (.var 30), .e (.var 31), .e (.var 32), .e (.var 33), .e (.var 34), .e (.var 35), .e (.var 36), .e (.var 37), .e (.var 38), .e (.var 39), .e (.var 40), .e (.var 41), .e (.var 42), .e (.var 43), .e (.var 44), .e (.var 45), .e (.var 46), .e (.var 47)], .ag [.e (.var 48), .e (.var 49), .e (.var 50), .e (.var 51), .e (.var 52), .e (.var 53), .e (.var 54), .e (.var 55), .e (.var 56), .e (.var 57), .e (.var 58), .e (.var 59)]], pre := [], tin := [.int .i64, .int .i64, .int .i64, .int .i64, .int .i64, .int .i64, .int .i64, .int .i64, .int .i64, .int .i64, .int .i64, .int .i64, .int .i64, .int .i64, .int .i64, .int .i64, .int .i64, .int .i64, .int .i64, .int .i64, .int .i64, .int .i64, .int .i64, .int .i64, .int .i64, .int .i64, .int .i64, .int .i64, .int .i64, .int .i64, .int .i64, .int .i64, .int .i64, .int .i64, .int .i64, .int .i64, .int .i64, .int .i64, .int .i64, .int .i64, .int .i64, .int .i64, .int .i64, .int .i64, .int .i64, .int .i64, .int .i64, .int .i64, .int .i64, .int .i64, .int .i64, .int .i64, .int .i64, .int .i64, .int .i64, .int .i64, .int .i64, .int .i64, .int .i64, .int .i64], gin := [], res := .c (.s (.e (.var 0))), post := [], tout := [.bool], gout := [] }
def cl_FnExactTableApply : List (Nat × Sig) := [(8, sg_toTable), (14, sg_toStokes), (13, sg_sTableApply), (15, sg_iTableApply), (16, sg_eqStokes)]
theorem run_FnExactTableApply : run ⟨Try.prog, glb, cl_FnExactTableApply⟩ [] Try.f5 sg_FnExactTableApply (Try.f5.body.getD .skip) = tr_FnExactTableApply := by kernel_rfl
theorem om_FnExactTableApply : ΩOK ⟨Try.prog, glb, cl_FnExactTableApply⟩ (specsOf Fs_FnExactTableApply) := (ΩOK_cons cong_toTable Try.call8 (ΩOK_cons cong_toStokes Try.call14 (ΩOK_cons cong_sTableApply Try.call13 (ΩOK_cons cong_iTableApply Try.call15 (ΩOK_cons cong_eqStokes Try.call16 ΩOK_nil)))))
theorem con_FnExactTableApply : ConOK Try.prog glb 5 sg_FnExactTableApply F_FnExactTableApply.spec := conOK_tree om_FnExactTableApply mixed Try.func5 (by kernel_rfl) run_FnExactTableApply

end Go.Proofs.Ytnlgkipjpbdodaa

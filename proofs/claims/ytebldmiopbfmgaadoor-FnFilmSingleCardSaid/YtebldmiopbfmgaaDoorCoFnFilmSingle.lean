/- The contracts of the functions. -/
import Derived.Test.YtebldmiopbfmgaaDoorChecked
import Derived.Test.YtebldmiopbfmgaaDoorRkAFnFilmSingle
import Derived.WalkKit
import Derived.Laws.OwnMore
import Derived.Deep.MidRow
namespace Go.Proofs.YtebldmiopbfmgaaDoor
open Go Go.Sx Go.RowKit
set_option maxRecDepth 100000

def glb : List (Nat × List Sc) := [(0, [.e (.int .i64 (0)), .e (.int .i64 (0)), .e (.int .i64 (1))])]
theorem mixed : Tryd.prog.follows .mixedOrders = true := by kernel_rfl

def sg_size : Sig := { args := [.s (.e (.var 0))], pre := [], tin := [.int .i64], gin := [], res := .c (.s (.e (.var 0))), post := [], tout := [.int .i64], gout := [] }
def cl_size : List (Nat × Sig) := []
theorem run_size : run ⟨Tryd.prog, glb, cl_size⟩ [] Tryd.f73 sg_size (Tryd.f73.body.getD .skip) = tr_size := by kernel_rfl
theorem om_size : ΩOK ⟨Tryd.prog, glb, cl_size⟩ (specsOf Fs_size) := ΩOK_nil
theorem con_size : ConOK Tryd.prog glb 73 sg_size F_size.spec := conOK_tree om_size mixed Tryd.func73 (by kernel_rfl) run_size

def sg_within : Sig := { args := [.s (.e (.var 0)), .s (.e (.var 1)), .s (.e (.var 2))], pre := [], tin := [.int .i64, .int .i64, .int .i64], gin := [], res := .c (.s (.e (.var 0))), post := [], tout := [.bool], gout := [] }
def cl_within : List (Nat × Sig) := []
theorem run_within : run ⟨Tryd.prog, glb, cl_within⟩ [] Tryd.f60 sg_within (Tryd.f60.body.getD .skip) = tr_within := by kernel_rfl
theorem om_within : ΩOK ⟨Tryd.prog, glb, cl_within⟩ (specsOf Fs_within) := ΩOK_nil
theorem con_within : ConOK Tryd.prog glb 60 sg_within F_within.spec := conOK_tree om_within mixed Tryd.func60 (by kernel_rfl) run_within
theorem cong_within : ConOK Tryd.prog glb 60 sg_within G_within.spec := (con_within).as as_within

def sg_l6In : Sig := { args := [.s (.e (.var 0)), .s (.e (.var 1)), .s (.e (.var 2))], pre := [], tin := [.int .i64, .int .i64, .int .i64], gin := [], res := .c (.s (.e (.var 0))), post := [], tout := [.bool], gout := [] }
def cl_l6In : List (Nat × Sig) := []
theorem run_l6In : run ⟨Tryd.prog, glb, cl_l6In⟩ [] Tryd.f59 sg_l6In (Tryd.f59.body.getD .skip) = tr_l6In := by kernel_rfl
theorem om_l6In : ΩOK ⟨Tryd.prog, glb, cl_l6In⟩ (specsOf Fs_l6In) := ΩOK_nil
theorem con_l6In : ConOK Tryd.prog glb 59 sg_l6In F_l6In.spec := conOK_tree om_l6In mixed Tryd.func59 (by kernel_rfl) run_l6In
theorem cong_l6In : ConOK Tryd.prog glb 59 sg_l6In G_l6In.spec := (con_l6In).as as_l6In

def sg_l2In : Sig := { args := [.s (.e (.var 0))], pre := [], tin := [.int .i64], gin := [], res := .c (.s (.e (.var 0))), post := [], tout := [.bool], gout := [] }
def cl_l2In : List (Nat × Sig) := [(59, sg_l6In)]
theorem run_l2In : run ⟨Tryd.prog, glb, cl_l2In⟩ [] Tryd.f74 sg_l2In (Tryd.f74.body.getD .skip) = tr_l2In := by kernel_rfl
theorem om_l2In : ΩOK ⟨Tryd.prog, glb, cl_l2In⟩ (specsOf Fs_l2In) := (ΩOK_cons cong_l6In Tryd.call59 ΩOK_nil)
theorem con_l2In : ConOK Tryd.prog glb 74 sg_l2In F_l2In.spec := conOK_tree om_l2In mixed Tryd.func74 (by kernel_rfl) run_l2In
theorem cong_l2In : ConOK Tryd.prog glb 74 sg_l2In G_l2In.spec := (con_l2In).as as_l2In

def sg_divisor : Sig := { args := [.s (.e (.var 0)), .s (.e (.var 1))], pre := [], tin := [.int .i64, .int .i64], gin := [], res := .c (.s (.e (.var 0))), post := [], tout := [.int .i64], gout := [] }
def cl_divisor : List (Nat × Sig) := []
theorem run_divisor : run ⟨Tryd.prog, glb, cl_divisor⟩ [(0, ⟨[(0, .int .i64), (1, .int .i64)], [], none⟩)] Tryd.f72 sg_divisor (Tryd.f72.body.getD .skip) = tr_divisor := by kernel_rfl
theorem om_divisor : ΩOK ⟨Tryd.prog, glb, cl_divisor⟩ (specsOf Fs_divisor) := ΩOK_nil
theorem con_divisor : ConOK Tryd.prog glb 72 sg_divisor F_divisor.spec := conOK_of om_divisor mixed Tryd.func72 (by kernel_rfl) run_divisor (fun ins K ht h => sat_divisor Tryd.prog ins K ht h.1 h.2)

def sg_l2Gcd : Sig := { args := [.s (.e (.var 0)), .s (.e (.var 1))], pre := [], tin := [.int .i64, .int .i64], gin := [], res := .c (.s (.e (.var 0))), post := [], tout := [.int .i64], gout := [] }
def cl_l2Gcd : List (Nat × Sig) := []
theorem run_l2Gcd : run ⟨Tryd.prog, glb, cl_l2Gcd⟩ [(0, ⟨[(0, .int .i64), (1, .int .i64)], [], none⟩)] Tryd.f75 sg_l2Gcd (Tryd.f75.body.getD .skip) = tr_l2Gcd := by kernel_rfl
theorem om_l2Gcd : ΩOK ⟨Tryd.prog, glb, cl_l2Gcd⟩ (specsOf Fs_l2Gcd) := ΩOK_nil
theorem con_l2Gcd : ConOK Tryd.prog glb 75 sg_l2Gcd F_l2Gcd.spec := conOK_of om_l2Gcd mixed Tryd.func75 (by kernel_rfl) run_l2Gcd (fun ins K ht h => sat_l2Gcd Tryd.prog ins K ht h.1 h.2)

def sg_sFracValid : Sig := { args := [.ag [.e (.var 0), .e (.var 1), .e (.var 2)]], pre := [], tin := [.int .i64, .int .i64, .int .i64], gin := [], res := .c (.s (.e (.var 0))), post := [], tout := [.bool], gout := [] }
def cl_sFracValid : List (Nat × Sig) := [(74, sg_l2In), (59, sg_l6In), (75, sg_l2Gcd)]
theorem run_sFracValid : run ⟨Tryd.prog, glb, cl_sFracValid⟩ [] Tryd.f58 sg_sFracValid (Tryd.f58.body.getD .skip) = tr_sFracValid := by kernel_rfl
theorem om_sFracValid : ΩOK ⟨Tryd.prog, glb, cl_sFracValid⟩ (specsOf Fs_sFracValid) := (ΩOK_cons cong_l2In Tryd.call74 (ΩOK_cons cong_l6In Tryd.call59 (ΩOK_cons con_l2Gcd Tryd.call75 ΩOK_nil)))
theorem con_sFracValid : ConOK Tryd.prog glb 58 sg_sFracValid F_sFracValid.spec := conOK_tree om_sFracValid mixed Tryd.func58 (by kernel_rfl) run_sFracValid
theorem cong_sFracValid : ConOK Tryd.prog glb 58 sg_sFracValid G_sFracValid.spec := (con_sFracValid).as as_sFracValid

def sg_l2Low : Sig := { args := [.s (.e (.var 0)), .s (.e (.var 1)), .s (.e (.var 2))], pre := [], tin := [.int .i64, .int .i64, .int .i64], gin := [], res := .tu [.ag [.e (.var 0), .e (.var 1), .e (.var 2)], .s (.e (.var 3))], post := [], tout := [.int .i64, .int .i64, .int .i64, .bool], gout := [] }
def cl_l2Low : List (Nat × Sig) := [(75, sg_l2Gcd), (58, sg_sFracValid)]
theorem run_l2Low : run ⟨Tryd.prog, glb, cl_l2Low⟩ [] Tryd.f78 sg_l2Low (Tryd.f78.body.getD .skip) = tr_l2Low := by kernel_rfl
theorem om_l2Low : ΩOK ⟨Tryd.prog, glb, cl_l2Low⟩ (specsOf Fs_l2Low) := (ΩOK_cons con_l2Gcd Tryd.call75 (ΩOK_cons cong_sFracValid Tryd.call58 ΩOK_nil))
theorem con_l2Low : ConOK Tryd.prog glb 78 sg_l2Low F_l2Low.spec := conOK_tree om_l2Low mixed Tryd.func78 (by kernel_rfl) run_l2Low
theorem cong_l2Low : ConOK Tryd.prog glb 78 sg_l2Low G_l2Low.spec := (con_l2Low).as as_l2Low

def sg_iFracValid : Sig := { args := [.ag [.e (.var 0), .e (.var 1), .e (.var 2)]], pre := [], tin := [.int .i64, .int .i64, .int .i64], gin := [], res := .c (.s (.e (.var 0))), post := [], tout := [.bool], gout := [] }
def cl_iFracValid : List (Nat × Sig) := [(60, sg_within), (72, sg_divisor), (73, sg_size)]
theorem run_iFracValid : run ⟨Tryd.prog, glb, cl_iFracValid⟩ [] Tryd.f57 sg_iFracValid (Tryd.f57.body.getD .skip) = tr_iFracValid := by kernel_rfl
theorem om_iFracValid : ΩOK ⟨Tryd.prog, glb, cl_iFracValid⟩ (specsOf Fs_iFracValid) := (ΩOK_cons cong_within Tryd.call60 (ΩOK_cons con_divisor Tryd.call72 (ΩOK_cons con_size Tryd.call73 ΩOK_nil)))
theorem con_iFracValid : ConOK Tryd.prog glb 57 sg_iFracValid F_iFracValid.spec := conOK_tree om_iFracValid mixed Tryd.func57 (by kernel_rfl) run_iFracValid
theorem cong_iFracValid : ConOK Tryd.prog glb 57 sg_iFracValid G_iFracValid.spec := (con_iFracValid).as as_iFracValid

def sg_indexOk : Sig := { args := [.ag [.e (.var 0), .e (.var 1), .e (.var 2)]], pre := [], tin := [.int .i64, .int .i64, .int .i64], gin := [], res := .c (.s (.e (.var 0))), post := [], tout := [.bool], gout := [] }
def cl_indexOk : List (Nat × Sig) := [(57, sg_iFracValid)]
theorem run_indexOk : run ⟨Tryd.prog, glb, cl_indexOk⟩ [] Tryd.f39 sg_indexOk (Tryd.f39.body.getD .skip) = tr_indexOk := by kernel_rfl
theorem om_indexOk : ΩOK ⟨Tryd.prog, glb, cl_indexOk⟩ (specsOf Fs_indexOk) := (ΩOK_cons cong_iFracValid Tryd.call57 ΩOK_nil)
theorem con_indexOk : ConOK Tryd.prog glb 39 sg_indexOk F_indexOk.spec := conOK_tree om_indexOk mixed Tryd.func39 (by kernel_rfl) run_indexOk
theorem cong_indexOk : ConOK Tryd.prog glb 39 sg_indexOk G_indexOk.spec := (con_indexOk).as as_indexOk

def sg_iFilmValid : Sig := { args := [.s (.e (.var 0))], pre := [], tin := [.sl, .row .i64 4], gin := [(0, 1, 4)], res := .c (.s (.e (.var 0))), post := [], tout := [.bool], gout := [] }
def cl_iFilmValid : List (Nat × Sig) := [(39, sg_indexOk), (60, sg_within)]
theorem run_iFilmValid : run ⟨Tryd.prog, glb, cl_iFilmValid⟩ [(0, ⟨[(7, .int .i64)], [], none⟩)] Tryd.f31 sg_iFilmValid (Tryd.f31.body.getD .skip) = tr_iFilmValid := by kernel_rfl
theorem om_iFilmValid : ΩOK ⟨Tryd.prog, glb, cl_iFilmValid⟩ (specsOf Fs_iFilmValid) := (ΩOK_cons cong_indexOk Tryd.call39 (ΩOK_cons cong_within Tryd.call60 ΩOK_nil))
theorem con_iFilmValid : ConOK Tryd.prog glb 31 sg_iFilmValid F_iFilmValid.spec := conOK_of om_iFilmValid mixed Tryd.func31 (by kernel_rfl) run_iFilmValid (fun ins K ht h => sat_iFilmValid Tryd.prog ins K ht h.1 h.2)

def sg_sFilmValid : Sig := { args := [.s (.e (.var 0))], pre := [], tin := [.sl, .row .i64 4], gin := [(0, 1, 4)], res := .c (.s (.e (.var 0))), post := [], tout := [.bool], gout := [] }
def cl_sFilmValid : List (Nat × Sig) := [(58, sg_sFracValid), (59, sg_l6In)]
theorem run_sFilmValid : run ⟨Tryd.prog, glb, cl_sFilmValid⟩ [(0, ⟨[(3, .int .i64)], [], none⟩)] Tryd.f29 sg_sFilmValid (Tryd.f29.body.getD .skip) = tr_sFilmValid := by kernel_rfl
theorem om_sFilmValid : ΩOK ⟨Tryd.prog, glb, cl_sFilmValid⟩ (specsOf Fs_sFilmValid) := (ΩOK_cons cong_sFracValid Tryd.call58 (ΩOK_cons cong_l6In Tryd.call59 ΩOK_nil))
theorem con_sFilmValid : ConOK Tryd.prog glb 29 sg_sFilmValid F_sFilmValid.spec := conOK_of om_sFilmValid mixed Tryd.func29 (by kernel_rfl) run_sFilmValid (fun ins K ht h => sat_sFilmValid Tryd.prog ins K ht h.1 h.2)

def sg_pick : Sig := { args := [.s (.p (.own 0) 0), .s (.e (.var 0))], pre := [⟨[.e (.var 1), .e (.var 2)], 100⟩], tin := [.int .i64, .sl, .int .i64, .row .u8 1], gin := [(1, 3, 1)], res := .c (.s (.e (.var 0))), post := [⟨[.e (.var 1), .e (.var 2)], 100⟩], tout := [.int .i64, .sl, .int .i64], gout := [] }
def cl_pick : List (Nat × Sig) := []
theorem run_pick : run ⟨Tryd.prog, glb, cl_pick⟩ [] Tryd.f76 sg_pick (Tryd.f76.body.getD .skip) = tr_pick := by kernel_rfl
theorem om_pick : ΩOK ⟨Tryd.prog, glb, cl_pick⟩ (specsOf Fs_pick) := ΩOK_nil
theorem con_pick : ConOK Tryd.prog glb 76 sg_pick F_pick.spec := conOK_tree om_pick mixed Tryd.func76 (by kernel_rfl) run_pick

def sg_pickC : Sig := { args := [.s (.p (.own 0) 0), .s (.e (.var 0))], pre := [⟨[.e (.var 1), .e (.var 2)], 100⟩], tin := [.int .i64, .sl, .int .i64], gin := [], res := .c (.s (.e (.var 0))), post := [⟨[.e (.var 1), .e (.var 2)], 100⟩], tout := [.int .i64, .sl, .int .i64], gout := [] }
theorem con_pickC {cb : CodeB} (hk : CodeOk cb) (hG : Known cb (glb ++ cb.tail)) : ConOK Tryd.prog (glb ++ cb.tail) 76 sg_pickC (G_pick cb).spec := conOK_ghost (t := 100) hk hG con_pick.more (ghost_pick hk)


def sg_openC : Sig := { args := [.s (.e (.var 0))], pre := [], tin := [.sl], gin := [], res := .c (.s (.p (.own 0) 0)), post := [⟨[.e (.var 0), .e (.var 1)], 100⟩], tout := [.sl, .int .i64], gout := [] }
set_option maxHeartbeats 800000 in
set_option maxRecDepth 1000000 in
theorem open_short (a : Option Addr) (len cap : Nat) (w : World) (hl : len ≤ 2000) :
    Calls Tryd.prog 62 #[.slice a len cap] w fun e w' => e = .returned (.pointer (some ⟨w.heap.size, 0, none⟩)) ∧ w' = w.alloc (.cells #[.slice a len cap, .int .i64 0] 100) := by
  go_enter Tryd.func62, Tryd.ntmps62
  go_wp2
  go_ret
  exact ⟨rfl, rfl⟩
set_option maxHeartbeats 800000 in
set_option maxRecDepth 1000000 in
theorem open_long (a : Addr) (len cap : Nat) (w : World) (hl : ¬ len ≤ 2000) (hc : len ≤ cap) (hm : len ≤ 1048576) :
    Calls Tryd.prog 62 #[.slice (some a) len cap] w fun e w' => e = .returned (.pointer (some ⟨w.heap.size, 0, none⟩)) ∧ w' = w.alloc (.cells #[.slice (some a) 2000 cap, .int .i64 0] 100) := by
  go_enter Tryd.func62, Tryd.ntmps62
  go_wp2
  go_ret
  exact ⟨rfl, rfl⟩
theorem con_openC {cb : CodeB} (_ : CodeOk cb) (_ : Known cb (glb ++ cb.tail)) : ConOK Tryd.prog (glb ++ cb.tail) 62 sg_openC (G_open cb).spec := conOK_open (t := 100) open_short open_long


def sg_revL : Sig := { args := [.s (.e (.var 0))], pre := [], tin := [.sl, .row .i64 4], gin := [(0, 1, 4)], res := .c (.s (.e (.var 0))), post := [], tout := [.sl, .row .i64 4], gout := [(0, 1, 4)] }
def cl_revL : List (Nat × Sig) := []
theorem run_revL : run ⟨Tryd.prog, glb, cl_revL⟩ [(0, ⟨[(3, .sl), (4, .int .i64)], [], some (0, .row .i64 4, 4, 49)⟩)] Tryd.f32 sg_revL (Tryd.f32.body.getD .skip) = tr_revL := by kernel_rfl
theorem om_revL : ΩOK ⟨Tryd.prog, glb, cl_revL⟩ (specsOf Fs_revL) := ΩOK_nil
theorem con_revL : ConOK Tryd.prog glb 32 sg_revL SP_revL := conOK_of om_revL mixed Tryd.func32 (by kernel_rfl) run_revL (fun ins K ht h => sat_revL Tryd.prog ins K ht h)

def sg_realFilm : Sig := { args := [.s (.e (.var 0))], pre := [], tin := [.sl, .row .i64 4], gin := [(0, 1, 4)], res := .c (.s (.e (.var 0))), post := [], tout := [.bool], gout := [] }
def cl_realFilm : List (Nat × Sig) := []
theorem run_realFilm : run ⟨Tryd.prog, glb, cl_realFilm⟩ [(0, ⟨[(3, .int .i64)], [], none⟩)] Tryd.f23 sg_realFilm (Tryd.f23.body.getD .skip) = tr_realFilm := by kernel_rfl
theorem om_realFilm : ΩOK ⟨Tryd.prog, glb, cl_realFilm⟩ (specsOf Fs_realFilm) := ΩOK_nil
theorem con_realFilm : ConOK Tryd.prog glb 23 sg_realFilm F_realFilm.spec := conOK_of om_realFilm mixed Tryd.func23 (by kernel_rfl) run_realFilm (fun ins K ht h => sat_realFilm Tryd.prog ins K ht h.1 h.2)

def sg_iFracWide : Sig := { args := [.ag [.e (.var 0), .e (.var 1), .e (.var 2)]], pre := [], tin := [.int .i64, .int .i64, .int .i64], gin := [], res := .tu [.s (.e (.var 0)), .s (.e (.var 1))], post := [], tout := [.cpx .f64, .bool], gout := [] }
def cl_iFracWide : List (Nat × Sig) := [(57, sg_iFracValid)]
theorem run_iFracWide : run ⟨Tryd.prog, glb, cl_iFracWide⟩ [] Tryd.f28 sg_iFracWide (Tryd.f28.body.getD .skip) = tr_iFracWide := by kernel_rfl
theorem om_iFracWide : ΩOK ⟨Tryd.prog, glb, cl_iFracWide⟩ (specsOf Fs_iFracWide) := (ΩOK_cons cong_iFracValid Tryd.call57 ΩOK_nil)
theorem con_iFracWide : ConOK Tryd.prog glb 28 sg_iFracWide SP_iFracWide := conOK_of om_iFracWide mixed Tryd.func28 (by kernel_rfl) run_iFracWide (fun ins K ht h => sat_iFracWide Tryd.prog ins K ht h)

def sg_sFracWide : Sig := { args := [.ag [.e (.var 0), .e (.var 1), .e (.var 2)]], pre := [], tin := [.int .i64, .int .i64, .int .i64], gin := [], res := .tu [.s (.e (.var 0)), .s (.e (.var 1))], post := [], tout := [.cpx .f64, .bool], gout := [] }
def cl_sFracWide : List (Nat × Sig) := [(58, sg_sFracValid)]
theorem run_sFracWide : run ⟨Tryd.prog, glb, cl_sFracWide⟩ [] Tryd.f35 sg_sFracWide (Tryd.f35.body.getD .skip) = tr_sFracWide := by kernel_rfl
theorem om_sFracWide : ΩOK ⟨Tryd.prog, glb, cl_sFracWide⟩ (specsOf Fs_sFracWide) := (ΩOK_cons cong_sFracValid Tryd.call58 ΩOK_nil)
theorem con_sFracWide : ConOK Tryd.prog glb 35 sg_sFracWide SP_sFracWide := conOK_of om_sFracWide mixed Tryd.func35 (by kernel_rfl) run_sFracWide (fun ins K ht h => sat_sFracWide Tryd.prog ins K ht h)

def sg_iWideTimes : Sig := { args := [.s (.e (.var 0)), .s (.e (.var 1))], pre := [], tin := [.cpx .f64, .cpx .f64], gin := [], res := .c (.s (.e (.var 0))), post := [], tout := [.cpx .f64], gout := [] }
def cl_iWideTimes : List (Nat × Sig) := []
theorem run_iWideTimes : run ⟨Tryd.prog, glb, cl_iWideTimes⟩ [] Tryd.f41 sg_iWideTimes (Tryd.f41.body.getD .skip) = tr_iWideTimes := by kernel_rfl
theorem om_iWideTimes : ΩOK ⟨Tryd.prog, glb, cl_iWideTimes⟩ (specsOf Fs_iWideTimes) := ΩOK_nil
theorem con_iWideTimes : ConOK Tryd.prog glb 41 sg_iWideTimes SP_iWideTimes := conOK_of om_iWideTimes mixed Tryd.func41 (by kernel_rfl) run_iWideTimes (fun ins K ht h => sat_iWideTimes Tryd.prog ins K ht h)

def sg_iWideOver : Sig := { args := [.s (.e (.var 0)), .s (.e (.var 1))], pre := [], tin := [.cpx .f64, .cpx .f64], gin := [], res := .c (.s (.e (.var 0))), post := [], tout := [.cpx .f64], gout := [] }
def cl_iWideOver : List (Nat × Sig) := []
theorem run_iWideOver : run ⟨Tryd.prog, glb, cl_iWideOver⟩ [] Tryd.f40 sg_iWideOver (Tryd.f40.body.getD .skip) = tr_iWideOver := by kernel_rfl
theorem om_iWideOver : ΩOK ⟨Tryd.prog, glb, cl_iWideOver⟩ (specsOf Fs_iWideOver) := ΩOK_nil
theorem con_iWideOver : ConOK Tryd.prog glb 40 sg_iWideOver SP_iWideOver := conOK_of om_iWideOver mixed Tryd.func40 (by kernel_rfl) run_iWideOver (fun ins K ht h => sat_iWideOver Tryd.prog ins K ht h)

def sg_l8Given : Sig := { args := [.s (.e (.var 0)), .ag [.e (.var 1), .e (.var 2), .e (.var 3)], .ag [.e (.var 4), .e (.var 5), .e (.var 6)]], pre := [], tin := [.sl, .int .i64, .int .i64, .int .i64, .int .i64, .int .i64, .int .i64, .row .i64 4], gin := [(0, 7, 4)], res := .c (.s (.e (.var 0))), post := [], tout := [.bool], gout := [] }
def cl_l8Given : List (Nat × Sig) := [(29, sg_sFilmValid), (58, sg_sFracValid)]
theorem run_l8Given : run ⟨Tryd.prog, glb, cl_l8Given⟩ [] Tryd.f34 sg_l8Given (Tryd.f34.body.getD .skip) = tr_l8Given := by kernel_rfl
theorem om_l8Given : ΩOK ⟨Tryd.prog, glb, cl_l8Given⟩ (specsOf Fs_l8Given) := (ΩOK_cons con_sFilmValid Tryd.call29 (ΩOK_cons cong_sFracValid Tryd.call58 ΩOK_nil))
theorem con_l8Given : ConOK Tryd.prog glb 34 sg_l8Given F_l8Given.spec := conOK_tree om_l8Given mixed Tryd.func34 (by kernel_rfl) run_l8Given
theorem cong_l8Given : ConOK Tryd.prog glb 34 sg_l8Given G_l8Given.spec := (con_l8Given).as as_l8Given

def sg_iFilmWide : Sig := { args := [.s (.e (.var 0)), .ag [.e (.var 1), .e (.var 2), .e (.var 3)], .ag [.e (.var 4), .e (.var 5), .e (.var 6)]], pre := [], tin := [.sl, .int .i64, .int .i64, .int .i64, .int .i64, .int .i64, .int .i64, .row .i64 4], gin := [(0, 7, 4)], res := .tu [.s (.e (.var 0)), .s (.e (.var 1))], post := [], tout := [.cpx .f64, .bool], gout := [] }
def cl_iFilmWide : List (Nat × Sig) := [(31, sg_iFilmValid), (39, sg_indexOk), (28, sg_iFracWide), (32, sg_revL), (41, sg_iWideTimes), (40, sg_iWideOver)]
theorem run_iFilmWide : run ⟨Tryd.prog, glb, cl_iFilmWide⟩ [(0, ⟨[(39, .int .i64), (8, .cpx .f64), (9, .cpx .f64)], [], none⟩)] Tryd.f17 sg_iFilmWide (Tryd.f17.body.getD .skip) = tr_iFilmWide := by kernel_rfl
theorem om_iFilmWide : ΩOK ⟨Tryd.prog, glb, cl_iFilmWide⟩ Ss_iFilmWide := (ΩOK_consS con_iFilmValid Tryd.call31 (ΩOK_consS cong_indexOk Tryd.call39 (ΩOK_consS con_iFracWide Tryd.call28 (ΩOK_consS con_revL Tryd.call32 (ΩOK_consS con_iWideTimes Tryd.call41 (ΩOK_consS con_iWideOver Tryd.call40 ΩOK_nilS))))))
theorem con_iFilmWide : ConOK Tryd.prog glb 17 sg_iFilmWide SP_iFilmWide := conOK_of om_iFilmWide mixed Tryd.func17 (by kernel_rfl) run_iFilmWide (fun ins K ht h => sat_iFilmWide Tryd.prog ins K ht h)

def sg_zeroAlike : Sig := { args := [.s (.e (.var 0)), .s (.e (.var 1))], pre := [], tin := [.flt .f64, .flt .f64], gin := [], res := .c (.s (.e (.var 0))), post := [], tout := [.bool], gout := [] }
def cl_zeroAlike : List (Nat × Sig) := []
theorem run_zeroAlike : run ⟨Tryd.prog, glb, cl_zeroAlike⟩ [] Tryd.f51 sg_zeroAlike (Tryd.f51.body.getD .skip) = tr_zeroAlike := by kernel_rfl
theorem om_zeroAlike : ΩOK ⟨Tryd.prog, glb, cl_zeroAlike⟩ (specsOf Fs_zeroAlike) := ΩOK_nil
theorem con_zeroAlike : ConOK Tryd.prog glb 51 sg_zeroAlike SP_zeroAlike := conOK_of om_zeroAlike mixed Tryd.func51 (by kernel_rfl) run_zeroAlike (fun ins K ht h => sat_zeroAlike Tryd.prog ins K ht h)

def sg_wideAlike : Sig := { args := [.s (.e (.var 0)), .s (.e (.var 1))], pre := [], tin := [.cpx .f64, .cpx .f64], gin := [], res := .c (.s (.e (.var 0))), post := [], tout := [.bool], gout := [] }
def cl_wideAlike : List (Nat × Sig) := [(51, sg_zeroAlike)]
theorem run_wideAlike : run ⟨Tryd.prog, glb, cl_wideAlike⟩ [] Tryd.f26 sg_wideAlike (Tryd.f26.body.getD .skip) = tr_wideAlike := by kernel_rfl
theorem om_wideAlike : ΩOK ⟨Tryd.prog, glb, cl_wideAlike⟩ Ss_wideAlike := (ΩOK_consS con_zeroAlike Tryd.call51 ΩOK_nilS)
theorem con_wideAlike : ConOK Tryd.prog glb 26 sg_wideAlike SP_wideAlike := conOK_of om_wideAlike mixed Tryd.func26 (by kernel_rfl) run_wideAlike (fun ins K ht h => sat_wideAlike Tryd.prog ins K ht h)

def sg_withinF : Sig := { args := [.s (.e (.var 0)), .s (.e (.var 1)), .s (.e (.var 2))], pre := [], tin := [.flt .f64, .flt .f64, .flt .f64], gin := [], res := .c (.s (.e (.var 0))), post := [], tout := [.bool], gout := [] }
def cl_withinF : List (Nat × Sig) := []
theorem run_withinF : run ⟨Tryd.prog, glb, cl_withinF⟩ [] Tryd.f24 sg_withinF (Tryd.f24.body.getD .skip) = tr_withinF := by kernel_rfl
theorem om_withinF : ΩOK ⟨Tryd.prog, glb, cl_withinF⟩ (specsOf Fs_withinF) := ΩOK_nil
theorem con_withinF : ConOK Tryd.prog glb 24 sg_withinF SP_withinF := conOK_of om_withinF mixed Tryd.func24 (by kernel_rfl) run_withinF (fun ins K ht h => sat_withinF Tryd.prog ins K ht h)

def sg_l91FracS : Sig := { args := [.s (.p (.own 0) 0)], pre := [⟨[.e (.var 0), .e (.var 1)], 100⟩], tin := [.sl, .int .i64], gin := [], res := .c (.ag [.e (.var 0), .e (.var 1), .e (.var 2)]), post := [⟨[.e (.var 3), .e (.var 4)], 100⟩], tout := [.int .i64, .int .i64, .int .i64, .sl, .int .i64], gout := [] }
def cl_l91FracS : List (Nat × Sig) := [(76, sg_pickC), (78, sg_l2Low)]
theorem run_l91FracS : (fun H : List (Nat × List Sc) => run ⟨Tryd.prog, glb ++ H, cl_l91FracS⟩ [] Tryd.f77 sg_l91FracS (Tryd.f77.body.getD .skip)) = fun _ => tr_l91FracS := by kernel_rfl
theorem om_l91FracS {cb : CodeB} (hk : CodeOk cb) (hG : Known cb (glb ++ cb.tail)) : ΩOK ⟨Tryd.prog, glb ++ cb.tail, cl_l91FracS⟩ (Ss_l91FracS cb) := (ΩOK_consS (con_pickC hk hG) Tryd.call76 (ΩOK_consS cong_l2Low.more Tryd.call78 ΩOK_nilS))
theorem con_l91FracS {cb : CodeB} (hk : CodeOk cb) (hG : Known cb (glb ++ cb.tail)) : ConOK Tryd.prog (glb ++ cb.tail) 77 sg_l91FracS (SP_l91FracS cb) := conOK_of (om_l91FracS hk hG) mixed Tryd.func77 (by kernel_rfl) (congrFun run_l91FracS cb.tail) (fun ins K ht h => sat_l91FracS Tryd.prog cb hk ins K ht h)

def sg_l92IndexS : Sig := { args := [.s (.p (.own 0) 0)], pre := [⟨[.e (.var 0), .e (.var 1)], 100⟩], tin := [.sl, .int .i64], gin := [], res := .c (.ag [.e (.var 0), .e (.var 1), .e (.var 2)]), post := [⟨[.e (.var 3), .e (.var 4)], 100⟩], tout := [.int .i64, .int .i64, .int .i64, .sl, .int .i64], gout := [] }
def cl_l92IndexS : List (Nat × Sig) := [(76, sg_pickC), (77, sg_l91FracS), (78, sg_l2Low)]
theorem run_l92IndexS : (fun H : List (Nat × List Sc) => run ⟨Tryd.prog, glb ++ H, cl_l92IndexS⟩ [] Tryd.f64 sg_l92IndexS (Tryd.f64.body.getD .skip)) = fun _ => tr_l92IndexS := by kernel_rfl
theorem om_l92IndexS {cb : CodeB} (hk : CodeOk cb) (hG : Known cb (glb ++ cb.tail)) : ΩOK ⟨Tryd.prog, glb ++ cb.tail, cl_l92IndexS⟩ (Ss_l92IndexS cb) := (ΩOK_consS (con_pickC hk hG) Tryd.call76 (ΩOK_consS (con_l91FracS hk hG) Tryd.call77 (ΩOK_consS cong_l2Low.more Tryd.call78 ΩOK_nilS)))
theorem con_l92IndexS {cb : CodeB} (hk : CodeOk cb) (hG : Known cb (glb ++ cb.tail)) : ConOK Tryd.prog (glb ++ cb.tail) 64 sg_l92IndexS (SP_l92IndexS cb) := conOK_of (om_l92IndexS hk hG) mixed Tryd.func64 (by kernel_rfl) (congrFun run_l92IndexS cb.tail) (fun ins K ht h => sat_l92IndexS Tryd.prog cb hk ins K ht h)

def sg_l92FilmS : Sig := { args := [.s (.p (.own 0) 0)], pre := [⟨[.e (.var 0), .e (.var 1)], 100⟩], tin := [.sl, .int .i64], gin := [], res := .c (.s (.e (.var 0))), post := [⟨[.e (.var 1), .e (.var 2)], 100⟩], tout := [.sl, .sl, .int .i64, .row .i64 4], gout := [(0, 3, 4)] }
def cl_l92FilmS : List (Nat × Sig) := [(76, sg_pickC), (64, sg_l92IndexS)]
theorem run_l92FilmS : (fun H : List (Nat × List Sc) => run ⟨Tryd.prog, glb ++ H, cl_l92FilmS⟩ [(0, ⟨[(3, .sl), (5, .int .i64)], [(0, 0, .sl), (0, 1, .int .i64)], some (0, .row .i64 4, 4, 49)⟩)] Tryd.f63 sg_l92FilmS (Tryd.f63.body.getD .skip)) = fun _ => tr_l92FilmS := by kernel_rfl
theorem om_l92FilmS {cb : CodeB} (hk : CodeOk cb) (hG : Known cb (glb ++ cb.tail)) : ΩOK ⟨Tryd.prog, glb ++ cb.tail, cl_l92FilmS⟩ (Ss_l92FilmS cb) := (ΩOK_consS (con_pickC hk hG) Tryd.call76 (ΩOK_consS (con_l92IndexS hk hG) Tryd.call64 ΩOK_nilS))
theorem con_l92FilmS {cb : CodeB} (hk : CodeOk cb) (hG : Known cb (glb ++ cb.tail)) : ConOK Tryd.prog (glb ++ cb.tail) 63 sg_l92FilmS (SP_l92FilmS cb) := conOK_of (om_l92FilmS hk hG) mixed Tryd.func63 (by kernel_rfl) (congrFun run_l92FilmS cb.tail) (fun ins K ht h => sat_l92FilmS Tryd.prog cb hk ins K ht h)

def sg_l92BetweenS : Sig := { args := [.s (.e (.var 0))], pre := [], tin := [.sl], gin := [], res := .tu [.s (.e (.var 0)), .ag [.e (.var 1), .e (.var 2), .e (.var 3)], .ag [.e (.var 4), .e (.var 5), .e (.var 6)]], post := [], tout := [.sl, .int .i64, .int .i64, .int .i64, .int .i64, .int .i64, .int .i64, .row .i64 4], gout := [(0, 7, 4)] }
def cl_l92BetweenS : List (Nat × Sig) := [(62, sg_openC), (63, sg_l92FilmS), (64, sg_l92IndexS)]
theorem run_l92BetweenS : (fun H : List (Nat × List Sc) => run ⟨Tryd.prog, glb ++ H, cl_l92BetweenS⟩ [] Tryd.f50 sg_l92BetweenS (Tryd.f50.body.getD .skip)) = fun _ => tr_l92BetweenS := by kernel_rfl
theorem om_l92BetweenS {cb : CodeB} (hk : CodeOk cb) (hG : Known cb (glb ++ cb.tail)) : ΩOK ⟨Tryd.prog, glb ++ cb.tail, cl_l92BetweenS⟩ (Ss_l92BetweenS cb) := (ΩOK_consS (con_openC hk hG) Tryd.call62 (ΩOK_consS (con_l92FilmS hk hG) Tryd.call63 (ΩOK_consS (con_l92IndexS hk hG) Tryd.call64 ΩOK_nilS)))
theorem con_l92BetweenS {cb : CodeB} (hk : CodeOk cb) (hG : Known cb (glb ++ cb.tail)) : ConOK Tryd.prog (glb ++ cb.tail) 50 sg_l92BetweenS (SP_l92BetweenS cb) := conOK_of (om_l92BetweenS hk hG) mixed Tryd.func50 (by kernel_rfl) (congrFun run_l92BetweenS cb.tail) (fun ins K ht h => sat_l92BetweenS Tryd.prog cb hk ins K ht h)

def sg_DrawFilmSingle : Sig := { args := [.s (.e (.var 0))], pre := [], tin := [.sl], gin := [], res := .tu [.s (.e (.var 0)), .ag [.e (.var 1), .e (.var 2), .e (.var 3)], .ag [.e (.var 4), .e (.var 5), .e (.var 6)]], post := [], tout := [.sl, .int .i64, .int .i64, .int .i64, .int .i64, .int .i64, .int .i64, .row .i64 4], gout := [(0, 7, 4)] }
def cl_DrawFilmSingle : List (Nat × Sig) := [(50, sg_l92BetweenS)]
theorem run_DrawFilmSingle : (fun H : List (Nat × List Sc) => run ⟨Tryd.prog, glb ++ H, cl_DrawFilmSingle⟩ [] Tryd.f21 sg_DrawFilmSingle (Tryd.f21.body.getD .skip)) = fun _ => tr_DrawFilmSingle := by kernel_rfl
theorem om_DrawFilmSingle {cb : CodeB} (hk : CodeOk cb) (hG : Known cb (glb ++ cb.tail)) : ΩOK ⟨Tryd.prog, glb ++ cb.tail, cl_DrawFilmSingle⟩ (Ss_DrawFilmSingle cb) := (ΩOK_consS (con_l92BetweenS hk hG) Tryd.call50 ΩOK_nilS)
theorem con_DrawFilmSingle {cb : CodeB} (hk : CodeOk cb) (hG : Known cb (glb ++ cb.tail)) : ConOK Tryd.prog (glb ++ cb.tail) 21 sg_DrawFilmSingle (SP_DrawFilmSingle cb) := conOK_of (om_DrawFilmSingle hk hG) mixed Tryd.func21 (by kernel_rfl) (congrFun run_DrawFilmSingle cb.tail) (fun ins K ht h => sat_DrawFilmSingle Tryd.prog cb hk ins K ht h)

def sg_iFracSingle : Sig := { args := [.ag [.e (.var 0), .e (.var 1), .e (.var 2)]], pre := [], tin := [.int .i64, .int .i64, .int .i64], gin := [], res := .tu [.s (.e (.var 0)), .s (.e (.var 1))], post := [], tout := [.cpx .f32, .bool], gout := [] }
def cl_iFracSingle : List (Nat × Sig) := [(28, sg_iFracWide)]
theorem run_iFracSingle : run ⟨Tryd.prog, glb, cl_iFracSingle⟩ [] Tryd.f47 sg_iFracSingle (Tryd.f47.body.getD .skip) = tr_iFracSingle := by kernel_rfl
theorem om_iFracSingle : ΩOK ⟨Tryd.prog, glb, cl_iFracSingle⟩ Ss_iFracSingle := (ΩOK_consS con_iFracWide Tryd.call28 ΩOK_nilS)
theorem con_iFracSingle : ConOK Tryd.prog glb 47 sg_iFracSingle SP_iFracSingle := conOK_of om_iFracSingle mixed Tryd.func47 (by kernel_rfl) run_iFracSingle (fun ins K ht h => sat_iFracSingle Tryd.prog ins K ht h)

def sg_sFracSingle : Sig := { args := [.ag [.e (.var 0), .e (.var 1), .e (.var 2)]], pre := [], tin := [.int .i64, .int .i64, .int .i64], gin := [], res := .tu [.s (.e (.var 0)), .s (.e (.var 1))], post := [], tout := [.cpx .f32, .bool], gout := [] }
def cl_sFracSingle : List (Nat × Sig) := [(35, sg_sFracWide)]
theorem run_sFracSingle : run ⟨Tryd.prog, glb, cl_sFracSingle⟩ [] Tryd.f43 sg_sFracSingle (Tryd.f43.body.getD .skip) = tr_sFracSingle := by kernel_rfl
theorem om_sFracSingle : ΩOK ⟨Tryd.prog, glb, cl_sFracSingle⟩ Ss_sFracSingle := (ΩOK_consS con_sFracWide Tryd.call35 ΩOK_nilS)
theorem con_sFracSingle : ConOK Tryd.prog glb 43 sg_sFracSingle SP_sFracSingle := conOK_of om_sFracSingle mixed Tryd.func43 (by kernel_rfl) run_sFracSingle (fun ins K ht h => sat_sFracSingle Tryd.prog ins K ht h)

def sg_iSingleTimes : Sig := { args := [.s (.e (.var 0)), .s (.e (.var 1))], pre := [], tin := [.cpx .f32, .cpx .f32], gin := [], res := .c (.s (.e (.var 0))), post := [], tout := [.cpx .f32], gout := [] }
def cl_iSingleTimes : List (Nat × Sig) := [(41, sg_iWideTimes)]
theorem run_iSingleTimes : run ⟨Tryd.prog, glb, cl_iSingleTimes⟩ [] Tryd.f49 sg_iSingleTimes (Tryd.f49.body.getD .skip) = tr_iSingleTimes := by kernel_rfl
theorem om_iSingleTimes : ΩOK ⟨Tryd.prog, glb, cl_iSingleTimes⟩ Ss_iSingleTimes := (ΩOK_consS con_iWideTimes Tryd.call41 ΩOK_nilS)
theorem con_iSingleTimes : ConOK Tryd.prog glb 49 sg_iSingleTimes SP_iSingleTimes := conOK_of om_iSingleTimes mixed Tryd.func49 (by kernel_rfl) run_iSingleTimes (fun ins K ht h => sat_iSingleTimes Tryd.prog ins K ht h)

def sg_sSingleTimes : Sig := { args := [.s (.e (.var 0)), .s (.e (.var 1))], pre := [], tin := [.cpx .f32, .cpx .f32], gin := [], res := .c (.s (.e (.var 0))), post := [], tout := [.cpx .f32], gout := [] }
def cl_sSingleTimes : List (Nat × Sig) := []
theorem run_sSingleTimes : run ⟨Tryd.prog, glb, cl_sSingleTimes⟩ [] Tryd.f45 sg_sSingleTimes (Tryd.f45.body.getD .skip) = tr_sSingleTimes := by kernel_rfl
theorem om_sSingleTimes : ΩOK ⟨Tryd.prog, glb, cl_sSingleTimes⟩ (specsOf Fs_sSingleTimes) := ΩOK_nil
theorem con_sSingleTimes : ConOK Tryd.prog glb 45 sg_sSingleTimes SP_sSingleTimes := conOK_of om_sSingleTimes mixed Tryd.func45 (by kernel_rfl) run_sSingleTimes (fun ins K ht h => sat_sSingleTimes Tryd.prog ins K ht h)

def sg_iSingleOver : Sig := { args := [.s (.e (.var 0)), .s (.e (.var 1))], pre := [], tin := [.cpx .f32, .cpx .f32], gin := [], res := .c (.s (.e (.var 0))), post := [], tout := [.cpx .f32], gout := [] }
def cl_iSingleOver : List (Nat × Sig) := []
theorem run_iSingleOver : run ⟨Tryd.prog, glb, cl_iSingleOver⟩ [] Tryd.f48 sg_iSingleOver (Tryd.f48.body.getD .skip) = tr_iSingleOver := by kernel_rfl
theorem om_iSingleOver : ΩOK ⟨Tryd.prog, glb, cl_iSingleOver⟩ (specsOf Fs_iSingleOver) := ΩOK_nil
theorem con_iSingleOver : ConOK Tryd.prog glb 48 sg_iSingleOver SP_iSingleOver := conOK_of om_iSingleOver mixed Tryd.func48 (by kernel_rfl) run_iSingleOver (fun ins K ht h => sat_iSingleOver Tryd.prog ins K ht h)

def sg_sSingleOver : Sig := { args := [.s (.e (.var 0)), .s (.e (.var 1))], pre := [], tin := [.cpx .f32, .cpx .f32], gin := [], res := .c (.s (.e (.var 0))), post := [], tout := [.cpx .f32], gout := [] }
def cl_sSingleOver : List (Nat × Sig) := []
theorem run_sSingleOver : run ⟨Tryd.prog, glb, cl_sSingleOver⟩ [] Tryd.f46 sg_sSingleOver (Tryd.f46.body.getD .skip) = tr_sSingleOver := by kernel_rfl
theorem om_sSingleOver : ΩOK ⟨Tryd.prog, glb, cl_sSingleOver⟩ (specsOf Fs_sSingleOver) := ΩOK_nil
theorem con_sSingleOver : ConOK Tryd.prog glb 46 sg_sSingleOver SP_sSingleOver := conOK_of om_sSingleOver mixed Tryd.func46 (by kernel_rfl) run_sSingleOver (fun ins K ht h => sat_sSingleOver Tryd.prog ins K ht h)

def sg_l8Single : Sig := { args := [.ag [.e (.var 0), .e (.var 1), .e (.var 2), .e (.var 3)], .s (.e (.var 4)), .s (.e (.var 5))], pre := [], tin := [.int .i64, .int .i64, .int .i64, .int .i64, .cpx .f32, .cpx .f32], gin := [], res := .tu [.s (.e (.var 0)), .s (.e (.var 1))], post := [], tout := [.cpx .f32, .cpx .f32], gout := [] }
def cl_l8Single : List (Nat × Sig) := [(43, sg_sFracSingle), (45, sg_sSingleTimes), (46, sg_sSingleOver)]
theorem run_l8Single : run ⟨Tryd.prog, glb, cl_l8Single⟩ [] Tryd.f44 sg_l8Single (Tryd.f44.body.getD .skip) = tr_l8Single := by kernel_rfl
theorem om_l8Single : ΩOK ⟨Tryd.prog, glb, cl_l8Single⟩ Ss_l8Single := (ΩOK_consS con_sFracSingle Tryd.call43 (ΩOK_consS con_sSingleTimes Tryd.call45 (ΩOK_consS con_sSingleOver Tryd.call46 ΩOK_nilS)))
theorem con_l8Single : ConOK Tryd.prog glb 44 sg_l8Single SP_l8Single := conOK_of om_l8Single mixed Tryd.func44 (by kernel_rfl) run_l8Single (fun ins K ht h => sat_l8Single Tryd.prog ins K ht h)

def sg_iFilmSingle : Sig := { args := [.s (.e (.var 0)), .ag [.e (.var 1), .e (.var 2), .e (.var 3)], .ag [.e (.var 4), .e (.var 5), .e (.var 6)]], pre := [], tin := [.sl, .int .i64, .int .i64, .int .i64, .int .i64, .int .i64, .int .i64, .row .i64 4], gin := [(0, 7, 4)], res := .tu [.s (.e (.var 0)), .s (.e (.var 1))], post := [], tout := [.cpx .f32, .bool], gout := [] }
def cl_iFilmSingle : List (Nat × Sig) := [(31, sg_iFilmValid), (39, sg_indexOk), (47, sg_iFracSingle), (32, sg_revL), (49, sg_iSingleTimes), (48, sg_iSingleOver)]
theorem run_iFilmSingle : run ⟨Tryd.prog, glb, cl_iFilmSingle⟩ [(0, ⟨[(39, .int .i64), (8, .cpx .f32), (9, .cpx .f32)], [], none⟩)] Tryd.f20 sg_iFilmSingle (Tryd.f20.body.getD .skip) = tr_iFilmSingle := by kernel_rfl
theorem om_iFilmSingle : ΩOK ⟨Tryd.prog, glb, cl_iFilmSingle⟩ Ss_iFilmSingle := (ΩOK_consS con_iFilmValid Tryd.call31 (ΩOK_consS cong_indexOk Tryd.call39 (ΩOK_consS con_iFracSingle Tryd.call47 (ΩOK_consS con_revL Tryd.call32 (ΩOK_consS con_iSingleTimes Tryd.call49 (ΩOK_consS con_iSingleOver Tryd.call48 ΩOK_nilS))))))
theorem con_iFilmSingle : ConOK Tryd.prog glb 20 sg_iFilmSingle SP_iFilmSingle := conOK_of om_iFilmSingle mixed Tryd.func20 (by kernel_rfl) run_iFilmSingle (fun ins K ht h => sat_iFilmSingle Tryd.prog ins K ht h)

def sg_sFilmSingle : Sig := { args := [.s (.e (.var 0)), .ag [.e (.var 1), .e (.var 2), .e (.var 3)], .ag [.e (.var 4), .e (.var 5), .e (.var 6)]], pre := [], tin := [.sl, .int .i64, .int .i64, .int .i64, .int .i64, .int .i64, .int .i64, .row .i64 4], gin := [(0, 7, 4)], res := .tu [.s (.e (.var 0)), .s (.e (.var 1))], post := [], tout := [.cpx .f32, .bool], gout := [] }
def cl_sFilmSingle : List (Nat × Sig) := [(34, sg_l8Given), (43, sg_sFracSingle), (44, sg_l8Single), (45, sg_sSingleTimes), (46, sg_sSingleOver)]
theorem run_sFilmSingle : run ⟨Tryd.prog, glb, cl_sFilmSingle⟩ [(0, ⟨[(11, .int .i64), (8, .cpx .f32), (9, .cpx .f32)], [], none⟩)] Tryd.f19 sg_sFilmSingle (Tryd.f19.body.getD .skip) = tr_sFilmSingle := by kernel_rfl
theorem om_sFilmSingle : ΩOK ⟨Tryd.prog, glb, cl_sFilmSingle⟩ Ss_sFilmSingle := (ΩOK_consS cong_l8Given Tryd.call34 (ΩOK_consS con_sFracSingle Tryd.call43 (ΩOK_consS con_l8Single Tryd.call44 (ΩOK_consS con_sSingleTimes Tryd.call45 (ΩOK_consS con_sSingleOver Tryd.call46 ΩOK_nilS)))))
theorem con_sFilmSingle : ConOK Tryd.prog glb 19 sg_sFilmSingle SP_sFilmSingle := conOK_of om_sFilmSingle mixed Tryd.func19 (by kernel_rfl) run_sFilmSingle (fun ins K ht h => sat_sFilmSingle Tryd.prog ins K ht h)

def sg_singleAlike : Sig := { args := [.s (.e (.var 0)), .s (.e (.var 1))], pre := [], tin := [.cpx .f32, .cpx .f32], gin := [], res := .c (.s (.e (.var 0))), post := [], tout := [.bool], gout := [] }
def cl_singleAlike : List (Nat × Sig) := [(26, sg_wideAlike)]
theorem run_singleAlike : run ⟨Tryd.prog, glb, cl_singleAlike⟩ [] Tryd.f22 sg_singleAlike (Tryd.f22.body.getD .skip) = tr_singleAlike := by kernel_rfl
theorem om_singleAlike : ΩOK ⟨Tryd.prog, glb, cl_singleAlike⟩ Ss_singleAlike := (ΩOK_consS con_wideAlike Tryd.call26 ΩOK_nilS)
theorem con_singleAlike : ConOK Tryd.prog glb 22 sg_singleAlike SP_singleAlike := conOK_of om_singleAlike mixed Tryd.func22 (by kernel_rfl) run_singleAlike (fun ins K ht h => sat_singleAlike Tryd.prog ins K ht h)

def sg_FnFilmSingle : Sig := { args := [.s (.e (.var 0))], pre := [], tin := [.sl], gin := [], res := .c (.s (.e (.var 0))), post := [], tout := [.bool], gout := [] }
def cl_FnFilmSingle : List (Nat × Sig) := [(21, sg_DrawFilmSingle), (20, sg_iFilmSingle), (19, sg_sFilmSingle), (22, sg_singleAlike), (17, sg_iFilmWide), (23, sg_realFilm), (24, sg_withinF)]
theorem run_FnFilmSingle : (fun H : List (Nat × List Sc) => run ⟨Tryd.prog, glb ++ H, cl_FnFilmSingle⟩ [(0, ⟨[(13, .int .i64), (12, .bool)], [], none⟩)] Tryd.f6 sg_FnFilmSingle (Tryd.f6.body.getD .skip)) = fun _ => tr_FnFilmSingle := by kernel_rfl
theorem om_FnFilmSingle {cb : CodeB} (hk : CodeOk cb) (hG : Known cb (glb ++ cb.tail)) : ΩOK ⟨Tryd.prog, glb ++ cb.tail, cl_FnFilmSingle⟩ (Ss_FnFilmSingle cb) := (ΩOK_consS (con_DrawFilmSingle hk hG).tys Tryd.call21 (ΩOK_consS con_iFilmSingle.more Tryd.call20 (ΩOK_consS con_sFilmSingle.more Tryd.call19 (ΩOK_consS con_singleAlike.more Tryd.call22 (ΩOK_consS con_iFilmWide.more Tryd.call17 (ΩOK_consS con_realFilm.more Tryd.call23 (ΩOK_consS con_withinF.more Tryd.call24 ΩOK_nilS)))))))
theorem con_FnFilmSingle {cb : CodeB} (hk : CodeOk cb) (hG : Known cb (glb ++ cb.tail)) : ConOK Tryd.prog (glb ++ cb.tail) 6 sg_FnFilmSingle (lawF cb).spec := conOK_of (om_FnFilmSingle hk hG) mixed Tryd.func6 (by kernel_rfl) (congrFun run_FnFilmSingle cb.tail) (fun ins K ht h => sat_FnFilmSingle Tryd.prog cb hk ins K ht h.1 h.2)

end Go.Proofs.YtebldmiopbfmgaaDoor

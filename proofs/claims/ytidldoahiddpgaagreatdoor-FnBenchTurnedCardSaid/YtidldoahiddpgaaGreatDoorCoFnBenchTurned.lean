import Derived.Test.YtidldoahiddpgaaGreatDoorChecked
import Derived.Test.YtidldoahiddpgaaGreatDoorRkAFnBenchTurned
import Derived.WalkKit
import Derived.Laws.OwnMore
import Derived.Deep.MidRow
import Derived.Test.YtidldoahiddpgaaGreatDoorShelf
import Derived.Laws.BytesArg
import Derived.Lib.ItoaLen
import Derived.Deep.DrawnRows
namespace Go.Proofs.YtidldoahiddpgaaGreatDoor
open Go Go.Sx Go.RowKit
set_option maxRecDepth 100000
attribute [local go_sem ↓] Go.wp_at_zero Go.wp_at_succ
def lib (lv : LibV) : List (Nat × List Sc) := lv.tail 5 8 9
def glb : List (Nat × List Sc) := [(2, [.e (.int .i64 (0)), .e (.int .i64 (0)), .e (.int .i64 (1))]), (0, [.e (.int .i64 (1)), .e (.int .i64 (0)), .e (.int .i64 (1))]), (1, [.e (.int .i64 (1)), .e (.int .i64 (0)), .e (.int .i64 (1)), .e (.int .i64 (0)), .e (.int .i64 (0)), .e (.int .i64 (1)), .e (.int .i64 (0)), .e (.int .i64 (0)), .e (.int .i64 (1)), .e (.int .i64 (1)), .e (.int .i64 (0)), .e (.int .i64 (1))]), (3, [.e (.int .i64 (1)), .e (.int .i64 (0)), .e (.int .i64 (1)), .e (.int .i64 (0)), .e (.int .i64 (1)), .e (.int .i64 (1)), .e (.int .i64 (-1)), .e (.int .i64 (0)), .e (.int .i64 (1)), .e (.int .i64 (0)), .e (.int .i64 (-1)), .e (.int .i64 (1))]), (4, Lib.pow10Tab.map fun z => Sc.e (.int .u64 z))]
theorem mixed : Tryz.prog.follows .mixedOrders = true := by kernel_rfl
def sg_size : Sig := { args := [.s (.e (.var 0))], pre := [], tin := [.int .i64], gin := [], res := .c (.s (.e (.var 0))), post := [], tout := [.int .i64], gout := [] }
def cl_size : List (Nat × Sig) := []
theorem run_size : (fun H : List (Nat × List Sc) => run ⟨Tryz.prog, glb ++ H, cl_size⟩ [] Tryz.f144 sg_size (Tryz.f144.body.getD .skip)) = fun _ => tr_size := by kernel_rfl
theorem om_size (lv : LibV) : ΩOK ⟨Tryz.prog, (glb ++ lib lv), cl_size⟩ (specsOf Fs_size) := ΩOK_nil
theorem con_size (lv : LibV) : ConOK Tryz.prog (glb ++ lib lv) 144 sg_size F_size.spec := conOK_tree (om_size lv) mixed Tryz.func144 (by kernel_rfl) (congrFun run_size (lib lv))
def sg_within : Sig := { args := [.s (.e (.var 0)), .s (.e (.var 1)), .s (.e (.var 2))], pre := [], tin := [.int .i64, .int .i64, .int .i64], gin := [], res := .c (.s (.e (.var 0))), post := [], tout := [.bool], gout := [] }
def cl_within : List (Nat × Sig) := []
theorem run_within : (fun H : List (Nat × List Sc) => run ⟨Tryz.prog, glb ++ H, cl_within⟩ [] Tryz.f142 sg_within (Tryz.f142.body.getD .skip)) = fun _ => tr_within := by kernel_rfl
theorem om_within (lv : LibV) : ΩOK ⟨Tryz.prog, (glb ++ lib lv), cl_within⟩ (specsOf Fs_within) := ΩOK_nil
theorem con_within (lv : LibV) : ConOK Tryz.prog (glb ++ lib lv) 142 sg_within F_within.spec := conOK_tree (om_within lv) mixed Tryz.func142 (by kernel_rfl) (congrFun run_within (lib lv))
theorem cong_within (lv : LibV) : ConOK Tryz.prog (glb ++ lib lv) 142 sg_within G_within.spec := (con_within lv).as as_within
def sg_l6In : Sig := { args := [.s (.e (.var 0)), .s (.e (.var 1)), .s (.e (.var 2))], pre := [], tin := [.int .i64, .int .i64, .int .i64], gin := [], res := .c (.s (.e (.var 0))), post := [], tout := [.bool], gout := [] }
def cl_l6In : List (Nat × Sig) := []
theorem run_l6In : (fun H : List (Nat × List Sc) => run ⟨Tryz.prog, glb ++ H, cl_l6In⟩ [] Tryz.f153 sg_l6In (Tryz.f153.body.getD .skip)) = fun _ => tr_l6In := by kernel_rfl
theorem om_l6In (lv : LibV) : ΩOK ⟨Tryz.prog, (glb ++ lib lv), cl_l6In⟩ (specsOf Fs_l6In) := ΩOK_nil
theorem con_l6In (lv : LibV) : ConOK Tryz.prog (glb ++ lib lv) 153 sg_l6In F_l6In.spec := conOK_tree (om_l6In lv) mixed Tryz.func153 (by kernel_rfl) (congrFun run_l6In (lib lv))
theorem cong_l6In (lv : LibV) : ConOK Tryz.prog (glb ++ lib lv) 153 sg_l6In G_l6In.spec := (con_l6In lv).as as_l6In
def sg_l2In : Sig := { args := [.s (.e (.var 0))], pre := [], tin := [.int .i64], gin := [], res := .c (.s (.e (.var 0))), post := [], tout := [.bool], gout := [] }
def cl_l2In : List (Nat × Sig) := [(153, sg_l6In)]
theorem run_l2In : (fun H : List (Nat × List Sc) => run ⟨Tryz.prog, glb ++ H, cl_l2In⟩ [] Tryz.f157 sg_l2In (Tryz.f157.body.getD .skip)) = fun _ => tr_l2In := by kernel_rfl
theorem om_l2In (lv : LibV) : ΩOK ⟨Tryz.prog, (glb ++ lib lv), cl_l2In⟩ (specsOf Fs_l2In) := (ΩOK_cons (cong_l6In lv) Tryz.call153 ΩOK_nil)
theorem con_l2In (lv : LibV) : ConOK Tryz.prog (glb ++ lib lv) 157 sg_l2In F_l2In.spec := conOK_tree (om_l2In lv) mixed Tryz.func157 (by kernel_rfl) (congrFun run_l2In (lib lv))
theorem cong_l2In (lv : LibV) : ConOK Tryz.prog (glb ++ lib lv) 157 sg_l2In G_l2In.spec := (con_l2In lv).as as_l2In
def sg_divisor : Sig := { args := [.s (.e (.var 0)), .s (.e (.var 1))], pre := [], tin := [.int .i64, .int .i64], gin := [], res := .c (.s (.e (.var 0))), post := [], tout := [.int .i64], gout := [] }
def cl_divisor : List (Nat × Sig) := []
theorem run_divisor : (fun H : List (Nat × List Sc) => run ⟨Tryz.prog, glb ++ H, cl_divisor⟩ [(0, ⟨[(0, .int .i64), (1, .int .i64)], [], none⟩)] Tryz.f143 sg_divisor (Tryz.f143.body.getD .skip)) = fun _ => tr_divisor := by kernel_rfl
theorem om_divisor (lv : LibV) : ΩOK ⟨Tryz.prog, (glb ++ lib lv), cl_divisor⟩ (specsOf Fs_divisor) := ΩOK_nil
theorem con_divisor (lv : LibV) : ConOK Tryz.prog (glb ++ lib lv) 143 sg_divisor F_divisor.spec := conOK_of (om_divisor lv) mixed Tryz.func143 (by kernel_rfl) (congrFun run_divisor (lib lv)) (fun ins K ht h => sat_divisor Tryz.prog ins K ht h.1 h.2)
def sg_l2Gcd : Sig := { args := [.s (.e (.var 0)), .s (.e (.var 1))], pre := [], tin := [.int .i64, .int .i64], gin := [], res := .c (.s (.e (.var 0))), post := [], tout := [.int .i64], gout := [] }
def cl_l2Gcd : List (Nat × Sig) := []
theorem run_l2Gcd : (fun H : List (Nat × List Sc) => run ⟨Tryz.prog, glb ++ H, cl_l2Gcd⟩ [(0, ⟨[(0, .int .i64), (1, .int .i64)], [], none⟩)] Tryz.f158 sg_l2Gcd (Tryz.f158.body.getD .skip)) = fun _ => tr_l2Gcd := by kernel_rfl
theorem om_l2Gcd (lv : LibV) : ΩOK ⟨Tryz.prog, (glb ++ lib lv), cl_l2Gcd⟩ (specsOf Fs_l2Gcd) := ΩOK_nil
theorem con_l2Gcd (lv : LibV) : ConOK Tryz.prog (glb ++ lib lv) 158 sg_l2Gcd F_l2Gcd.spec := conOK_of (om_l2Gcd lv) mixed Tryz.func158 (by kernel_rfl) (congrFun run_l2Gcd (lib lv)) (fun ins K ht h => sat_l2Gcd Tryz.prog ins K ht h.1 h.2)
def sg_lowest : Sig := { args := [.s (.e (.var 0)), .s (.e (.var 1)), .s (.e (.var 2))], pre := [], tin := [.int .i64, .int .i64, .int .i64], gin := [], res := .tu [.ag [.e (.var 0), .e (.var 1), .e (.var 2)], .s (.e (.var 3))], post := [], tout := [.int .i64, .int .i64, .int .i64, .bool], gout := [] }
def cl_lowest : List (Nat × Sig) := [(144, sg_size), (143, sg_divisor), (142, sg_within)]
theorem run_lowest : (fun H : List (Nat × List Sc) => run ⟨Tryz.prog, glb ++ H, cl_lowest⟩ [] Tryz.f87 sg_lowest (Tryz.f87.body.getD .skip)) = fun _ => tr_lowest := by kernel_rfl
theorem om_lowest (lv : LibV) : ΩOK ⟨Tryz.prog, (glb ++ lib lv), cl_lowest⟩ (specsOf Fs_lowest) := (ΩOK_cons (con_size lv) Tryz.call144 (ΩOK_cons (con_divisor lv) Tryz.call143 (ΩOK_cons (cong_within lv) Tryz.call142 ΩOK_nil)))
theorem con_lowest (lv : LibV) : ConOK Tryz.prog (glb ++ lib lv) 87 sg_lowest F_lowest.spec := conOK_tree (om_lowest lv) mixed Tryz.func87 (by kernel_rfl) (congrFun run_lowest (lib lv))
theorem cong_lowest (lv : LibV) : ConOK Tryz.prog (glb ++ lib lv) 87 sg_lowest G_lowest.spec := (con_lowest lv).as as_lowest
def sg_sFracValid : Sig := { args := [.ag [.e (.var 0), .e (.var 1), .e (.var 2)]], pre := [], tin := [.int .i64, .int .i64, .int .i64], gin := [], res := .c (.s (.e (.var 0))), post := [], tout := [.bool], gout := [] }
def cl_sFracValid : List (Nat × Sig) := [(157, sg_l2In), (153, sg_l6In), (158, sg_l2Gcd)]
theorem run_sFracValid : (fun H : List (Nat × List Sc) => run ⟨Tryz.prog, glb ++ H, cl_sFracValid⟩ [] Tryz.f115 sg_sFracValid (Tryz.f115.body.getD .skip)) = fun _ => tr_sFracValid := by kernel_rfl
theorem om_sFracValid (lv : LibV) : ΩOK ⟨Tryz.prog, (glb ++ lib lv), cl_sFracValid⟩ (specsOf Fs_sFracValid) := (ΩOK_cons (cong_l2In lv) Tryz.call157 (ΩOK_cons (cong_l6In lv) Tryz.call153 (ΩOK_cons (con_l2Gcd lv) Tryz.call158 ΩOK_nil)))
theorem con_sFracValid (lv : LibV) : ConOK Tryz.prog (glb ++ lib lv) 115 sg_sFracValid F_sFracValid.spec := conOK_tree (om_sFracValid lv) mixed Tryz.func115 (by kernel_rfl) (congrFun run_sFracValid (lib lv))
theorem cong_sFracValid (lv : LibV) : ConOK Tryz.prog (glb ++ lib lv) 115 sg_sFracValid G_sFracValid.spec := (con_sFracValid lv).as as_sFracValid
def sg_l2Low : Sig := { args := [.s (.e (.var 0)), .s (.e (.var 1)), .s (.e (.var 2))], pre := [], tin := [.int .i64, .int .i64, .int .i64], gin := [], res := .tu [.ag [.e (.var 0), .e (.var 1), .e (.var 2)], .s (.e (.var 3))], post := [], tout := [.int .i64, .int .i64, .int .i64, .bool], gout := [] }
def cl_l2Low : List (Nat × Sig) := [(158, sg_l2Gcd), (115, sg_sFracValid)]
theorem run_l2Low : (fun H : List (Nat × List Sc) => run ⟨Tryz.prog, glb ++ H, cl_l2Low⟩ [] Tryz.f171 sg_l2Low (Tryz.f171.body.getD .skip)) = fun _ => tr_l2Low := by kernel_rfl
theorem om_l2Low (lv : LibV) : ΩOK ⟨Tryz.prog, (glb ++ lib lv), cl_l2Low⟩ (specsOf Fs_l2Low) := (ΩOK_cons (con_l2Gcd lv) Tryz.call158 (ΩOK_cons (cong_sFracValid lv) Tryz.call115 ΩOK_nil))
theorem con_l2Low (lv : LibV) : ConOK Tryz.prog (glb ++ lib lv) 171 sg_l2Low F_l2Low.spec := conOK_tree (om_l2Low lv) mixed Tryz.func171 (by kernel_rfl) (congrFun run_l2Low (lib lv))
theorem cong_l2Low (lv : LibV) : ConOK Tryz.prog (glb ++ lib lv) 171 sg_l2Low G_l2Low.spec := (con_l2Low lv).as as_l2Low
def sg_sFracMake : Sig := { args := [.s (.e (.var 0)), .s (.e (.var 1)), .s (.e (.var 2))], pre := [], tin := [.int .i64, .int .i64, .int .i64], gin := [], res := .tu [.ag [.e (.var 0), .e (.var 1), .e (.var 2)], .s (.e (.var 3))], post := [], tout := [.int .i64, .int .i64, .int .i64, .bool], gout := [] }
def cl_sFracMake : List (Nat × Sig) := [(153, sg_l6In), (171, sg_l2Low)]
theorem run_sFracMake : (fun H : List (Nat × List Sc) => run ⟨Tryz.prog, glb ++ H, cl_sFracMake⟩ [] Tryz.f154 sg_sFracMake (Tryz.f154.body.getD .skip)) = fun _ => tr_sFracMake := by kernel_rfl
theorem om_sFracMake (lv : LibV) : ΩOK ⟨Tryz.prog, (glb ++ lib lv), cl_sFracMake⟩ (specsOf Fs_sFracMake) := (ΩOK_cons (cong_l6In lv) Tryz.call153 (ΩOK_cons (cong_l2Low lv) Tryz.call171 ΩOK_nil))
theorem con_sFracMake (lv : LibV) : ConOK Tryz.prog (glb ++ lib lv) 154 sg_sFracMake F_sFracMake.spec := conOK_tree (om_sFracMake lv) mixed Tryz.func154 (by kernel_rfl) (congrFun run_sFracMake (lib lv))
theorem cong_sFracMake (lv : LibV) : ConOK Tryz.prog (glb ++ lib lv) 154 sg_sFracMake G_sFracMake.spec := (con_sFracMake lv).as as_sFracMake
def sg_direction : Sig := { args := [.s (.e (.var 0)), .s (.e (.var 1))], pre := [], tin := [.int .i64, .int .i64], gin := [], res := .tu [.ag [.e (.var 0), .e (.var 1), .e (.var 2)], .ag [.e (.var 3), .e (.var 4), .e (.var 5)], .s (.e (.var 6))], post := [], tout := [.int .i64, .int .i64, .int .i64, .int .i64, .int .i64, .int .i64, .bool], gout := [] }
def cl_direction : List (Nat × Sig) := [(142, sg_within), (87, sg_lowest)]
theorem run_direction : (fun H : List (Nat × List Sc) => run ⟨Tryz.prog, glb ++ H, cl_direction⟩ [] Tryz.f101 sg_direction (Tryz.f101.body.getD .skip)) = fun _ => tr_direction := by kernel_rfl
theorem om_direction (lv : LibV) : ΩOK ⟨Tryz.prog, (glb ++ lib lv), cl_direction⟩ (specsOf Fs_direction) := (ΩOK_cons (cong_within lv) Tryz.call142 (ΩOK_cons (cong_lowest lv) Tryz.call87 ΩOK_nil))
theorem con_direction (lv : LibV) : ConOK Tryz.prog (glb ++ lib lv) 101 sg_direction F_direction.spec := conOK_tree (om_direction lv) mixed Tryz.func101 (by kernel_rfl) (congrFun run_direction (lib lv))
theorem cong_direction (lv : LibV) : ConOK Tryz.prog (glb ++ lib lv) 101 sg_direction G_direction.spec := (con_direction lv).as as_direction
def sg_l5Direction : Sig := { args := [.s (.e (.var 0)), .s (.e (.var 1))], pre := [], tin := [.int .i64, .int .i64], gin := [], res := .tu [.ag [.e (.var 0), .e (.var 1), .e (.var 2)], .ag [.e (.var 3), .e (.var 4), .e (.var 5)], .s (.e (.var 6))], post := [], tout := [.int .i64, .int .i64, .int .i64, .int .i64, .int .i64, .int .i64, .bool], gout := [] }
def cl_l5Direction : List (Nat × Sig) := [(153, sg_l6In), (154, sg_sFracMake)]
theorem run_l5Direction : (fun H : List (Nat × List Sc) => run ⟨Tryz.prog, glb ++ H, cl_l5Direction⟩ [] Tryz.f103 sg_l5Direction (Tryz.f103.body.getD .skip)) = fun _ => tr_l5Direction := by kernel_rfl
theorem om_l5Direction (lv : LibV) : ΩOK ⟨Tryz.prog, (glb ++ lib lv), cl_l5Direction⟩ (specsOf Fs_l5Direction) := (ΩOK_cons (cong_l6In lv) Tryz.call153 (ΩOK_cons (cong_sFracMake lv) Tryz.call154 ΩOK_nil))
theorem con_l5Direction (lv : LibV) : ConOK Tryz.prog (glb ++ lib lv) 103 sg_l5Direction F_l5Direction.spec := conOK_tree (om_l5Direction lv) mixed Tryz.func103 (by kernel_rfl) (congrFun run_l5Direction (lib lv))
theorem cong_l5Direction (lv : LibV) : ConOK Tryz.prog (glb ++ lib lv) 103 sg_l5Direction G_l5Direction.spec := (con_l5Direction lv).as as_l5Direction
def sg_iFracValid : Sig := { args := [.ag [.e (.var 0), .e (.var 1), .e (.var 2)]], pre := [], tin := [.int .i64, .int .i64, .int .i64], gin := [], res := .c (.s (.e (.var 0))), post := [], tout := [.bool], gout := [] }
def cl_iFracValid : List (Nat × Sig) := [(142, sg_within), (143, sg_divisor), (144, sg_size)]
theorem run_iFracValid : (fun H : List (Nat × List Sc) => run ⟨Tryz.prog, glb ++ H, cl_iFracValid⟩ [] Tryz.f86 sg_iFracValid (Tryz.f86.body.getD .skip)) = fun _ => tr_iFracValid := by kernel_rfl
theorem om_iFracValid (lv : LibV) : ΩOK ⟨Tryz.prog, (glb ++ lib lv), cl_iFracValid⟩ (specsOf Fs_iFracValid) := (ΩOK_cons (cong_within lv) Tryz.call142 (ΩOK_cons (con_divisor lv) Tryz.call143 (ΩOK_cons (con_size lv) Tryz.call144 ΩOK_nil)))
theorem con_iFracValid (lv : LibV) : ConOK Tryz.prog (glb ++ lib lv) 86 sg_iFracValid F_iFracValid.spec := conOK_tree (om_iFracValid lv) mixed Tryz.func86 (by kernel_rfl) (congrFun run_iFracValid (lib lv))
theorem cong_iFracValid (lv : LibV) : ConOK Tryz.prog (glb ++ lib lv) 86 sg_iFracValid G_iFracValid.spec := (con_iFracValid lv).as as_iFracValid
def sg_iFracAdd : Sig := { args := [.ag [.e (.var 0), .e (.var 1), .e (.var 2)], .ag [.e (.var 3), .e (.var 4), .e (.var 5)]], pre := [], tin := [.int .i64, .int .i64, .int .i64, .int .i64, .int .i64, .int .i64], gin := [], res := .tu [.ag [.e (.var 0), .e (.var 1), .e (.var 2)], .s (.e (.var 3))], post := [], tout := [.int .i64, .int .i64, .int .i64, .bool], gout := [] }
def cl_iFracAdd : List (Nat × Sig) := [(86, sg_iFracValid), (87, sg_lowest)]
theorem run_iFracAdd : (fun H : List (Nat × List Sc) => run ⟨Tryz.prog, glb ++ H, cl_iFracAdd⟩ [] Tryz.f137 sg_iFracAdd (Tryz.f137.body.getD .skip)) = fun _ => tr_iFracAdd := by kernel_rfl
theorem om_iFracAdd (lv : LibV) : ΩOK ⟨Tryz.prog, (glb ++ lib lv), cl_iFracAdd⟩ (specsOf Fs_iFracAdd) := (ΩOK_cons (cong_iFracValid lv) Tryz.call86 (ΩOK_cons (cong_lowest lv) Tryz.call87 ΩOK_nil))
theorem con_iFracAdd (lv : LibV) : ConOK Tryz.prog (glb ++ lib lv) 137 sg_iFracAdd F_iFracAdd.spec := conOK_tree (om_iFracAdd lv) mixed Tryz.func137 (by kernel_rfl) (congrFun run_iFracAdd (lib lv))
theorem cong_iFracAdd (lv : LibV) : ConOK Tryz.prog (glb ++ lib lv) 137 sg_iFracAdd G_iFracAdd.spec := (con_iFracAdd lv).as as_iFracAdd
def sg_iFracTimes : Sig := { args := [.ag [.e (.var 0), .e (.var 1), .e (.var 2)], .ag [.e (.var 3), .e (.var 4), .e (.var 5)]], pre := [], tin := [.int .i64, .int .i64, .int .i64, .int .i64, .int .i64, .int .i64], gin := [], res := .tu [.ag [.e (.var 0), .e (.var 1), .e (.var 2)], .s (.e (.var 3))], post := [], tout := [.int .i64, .int .i64, .int .i64, .bool], gout := [] }
def cl_iFracTimes : List (Nat × Sig) := [(86, sg_iFracValid), (87, sg_lowest)]
theorem run_iFracTimes : (fun H : List (Nat × List Sc) => run ⟨Tryz.prog, glb ++ H, cl_iFracTimes⟩ [] Tryz.f26 sg_iFracTimes (Tryz.f26.body.getD .skip)) = fun _ => tr_iFracTimes := by kernel_rfl
theorem om_iFracTimes (lv : LibV) : ΩOK ⟨Tryz.prog, (glb ++ lib lv), cl_iFracTimes⟩ (specsOf Fs_iFracTimes) := (ΩOK_cons (cong_iFracValid lv) Tryz.call86 (ΩOK_cons (cong_lowest lv) Tryz.call87 ΩOK_nil))
theorem con_iFracTimes (lv : LibV) : ConOK Tryz.prog (glb ++ lib lv) 26 sg_iFracTimes F_iFracTimes.spec := conOK_tree (om_iFracTimes lv) mixed Tryz.func26 (by kernel_rfl) (congrFun run_iFracTimes (lib lv))
theorem cong_iFracTimes (lv : LibV) : ConOK Tryz.prog (glb ++ lib lv) 26 sg_iFracTimes G_iFracTimes.spec := (con_iFracTimes lv).as as_iFracTimes
def sg_keep : Sig := { args := [.s (.p (.own 0) 0), .ag [.e (.var 0), .e (.var 1), .e (.var 2)], .s (.e (.var 3))], pre := [⟨[.e (.var 4)], 112⟩], tin := [.int .i64, .int .i64, .int .i64, .bool, .bool], gin := [], res := .c (.ag [.e (.var 0), .e (.var 1), .e (.var 2)]), post := [⟨[.e (.var 3)], 112⟩], tout := [.int .i64, .int .i64, .int .i64, .bool], gout := [] }
def cl_keep : List (Nat × Sig) := []
theorem run_keep : (fun H : List (Nat × List Sc) => run ⟨Tryz.prog, glb ++ H, cl_keep⟩ [] Tryz.f133 sg_keep (Tryz.f133.body.getD .skip)) = fun _ => tr_keep := by kernel_rfl
theorem om_keep (lv : LibV) : ΩOK ⟨Tryz.prog, (glb ++ lib lv), cl_keep⟩ (specsOf Fs_keep) := ΩOK_nil
theorem con_keep (lv : LibV) : ConOK Tryz.prog (glb ++ lib lv) 133 sg_keep F_keep.spec := conOK_tree (om_keep lv) mixed Tryz.func133 (by kernel_rfl) (congrFun run_keep (lib lv))
def sg_add : Sig := { args := [.s (.p (.own 0) 0), .ag [.e (.var 0), .e (.var 1), .e (.var 2)], .ag [.e (.var 3), .e (.var 4), .e (.var 5)]], pre := [⟨[.e (.var 6)], 112⟩], tin := [.int .i64, .int .i64, .int .i64, .int .i64, .int .i64, .int .i64, .bool], gin := [], res := .c (.ag [.e (.var 0), .e (.var 1), .e (.var 2)]), post := [⟨[.e (.var 3)], 112⟩], tout := [.int .i64, .int .i64, .int .i64, .bool], gout := [] }
def cl_add : List (Nat × Sig) := [(137, sg_iFracAdd), (133, sg_keep)]
theorem run_add : (fun H : List (Nat × List Sc) => run ⟨Tryz.prog, glb ++ H, cl_add⟩ [] Tryz.f77 sg_add (Tryz.f77.body.getD .skip)) = fun _ => tr_add := by kernel_rfl
theorem om_add (lv : LibV) : ΩOK ⟨Tryz.prog, (glb ++ lib lv), cl_add⟩ (specsOf Fs_add) := (ΩOK_cons (cong_iFracAdd lv) Tryz.call137 (ΩOK_cons (con_keep lv) Tryz.call133 ΩOK_nil))
theorem con_add (lv : LibV) : ConOK Tryz.prog (glb ++ lib lv) 77 sg_add F_add.spec := conOK_tree (om_add lv) mixed Tryz.func77 (by kernel_rfl) (congrFun run_add (lib lv))
theorem cong_add (lv : LibV) : ConOK Tryz.prog (glb ++ lib lv) 77 sg_add G_add.spec := (con_add lv).as as_add
def sg_times : Sig := { args := [.s (.p (.own 0) 0), .ag [.e (.var 0), .e (.var 1), .e (.var 2)], .ag [.e (.var 3), .e (.var 4), .e (.var 5)]], pre := [⟨[.e (.var 6)], 112⟩], tin := [.int .i64, .int .i64, .int .i64, .int .i64, .int .i64, .int .i64, .bool], gin := [], res := .c (.ag [.e (.var 0), .e (.var 1), .e (.var 2)]), post := [⟨[.e (.var 3)], 112⟩], tout := [.int .i64, .int .i64, .int .i64, .bool], gout := [] }
def cl_times : List (Nat × Sig) := [(26, sg_iFracTimes), (133, sg_keep)]
theorem run_times : (fun H : List (Nat × List Sc) => run ⟨Tryz.prog, glb ++ H, cl_times⟩ [] Tryz.f72 sg_times (Tryz.f72.body.getD .skip)) = fun _ => tr_times := by kernel_rfl
theorem om_times (lv : LibV) : ΩOK ⟨Tryz.prog, (glb ++ lib lv), cl_times⟩ (specsOf Fs_times) := (ΩOK_cons (cong_iFracTimes lv) Tryz.call26 (ΩOK_cons (con_keep lv) Tryz.call133 ΩOK_nil))
theorem con_times (lv : LibV) : ConOK Tryz.prog (glb ++ lib lv) 72 sg_times F_times.spec := conOK_tree (om_times lv) mixed Tryz.func72 (by kernel_rfl) (congrFun run_times (lib lv))
theorem cong_times (lv : LibV) : ConOK Tryz.prog (glb ++ lib lv) 72 sg_times G_times.spec := (con_times lv).as as_times
def sg_need : Sig := { args := [.s (.p (.own 0) 0), .s (.e (.var 0))], pre := [⟨[.e (.var 1)], 112⟩], tin := [.bool, .bool], gin := [], res := .c (.s (.p (.own 0) 0)), post := [⟨[.e (.var 0)], 112⟩], tout := [.bool], gout := [] }
def cl_need : List (Nat × Sig) := []
theorem run_need : (fun H : List (Nat × List Sc) => run ⟨Tryz.prog, glb ++ H, cl_need⟩ [] Tryz.f68 sg_need (Tryz.f68.body.getD .skip)) = fun _ => tr_need := by kernel_rfl
theorem om_need (lv : LibV) : ΩOK ⟨Tryz.prog, (glb ++ lib lv), cl_need⟩ (specsOf Fs_need) := ΩOK_nil
theorem con_need (lv : LibV) : ConOK Tryz.prog (glb ++ lib lv) 68 sg_need F_need.spec := conOK_tree (om_need lv) mixed Tryz.func68 (by kernel_rfl) (congrFun run_need (lib lv))
theorem cong_need (lv : LibV) : ConOK Tryz.prog (glb ++ lib lv) 68 sg_need G_need.spec := (con_need lv).as as_need
def sg_iMatValid : Sig := { args := [.ag [.e (.var 0), .e (.var 1), .e (.var 2), .e (.var 3), .e (.var 4), .e (.var 5), .e (.var 6), .e (.var 7), .e (.var 8), .e (.var 9), .e (.var 10), .e (.var 11)]], pre := [], tin := [.int .i64, .int .i64, .int .i64, .int .i64, .int .i64, .int .i64, .int .i64, .int .i64, .int .i64, .int .i64, .int .i64, .int .i64], gin := [], res := .c (.s (.e (.var 0))), post := [], tout := [.bool], gout := [] }
def cl_iMatValid : List (Nat × Sig) := [(86, sg_iFracValid)]
theorem run_iMatValid : (fun H : List (Nat × List Sc) => run ⟨Tryz.prog, glb ++ H, cl_iMatValid⟩ [] Tryz.f69 sg_iMatValid (Tryz.f69.body.getD .skip)) = fun _ => tr_iMatValid := by kernel_rfl
theorem om_iMatValid (lv : LibV) : ΩOK ⟨Tryz.prog, (glb ++ lib lv), cl_iMatValid⟩ (specsOf Fs_iMatValid) := (ΩOK_cons (cong_iFracValid lv) Tryz.call86 ΩOK_nil)
theorem con_iMatValid (lv : LibV) : ConOK Tryz.prog (glb ++ lib lv) 69 sg_iMatValid F_iMatValid.spec := conOK_tree (om_iMatValid lv) mixed Tryz.func69 (by kernel_rfl) (congrFun run_iMatValid (lib lv))
theorem cong_iMatValid (lv : LibV) : ConOK Tryz.prog (glb ++ lib lv) 69 sg_iMatValid G_iMatValid.spec := (con_iMatValid lv).as as_iMatValid
def sg_iFracMirror : Sig := { args := [.ag [.e (.var 0), .e (.var 1), .e (.var 2)]], pre := [], tin := [.int .i64, .int .i64, .int .i64], gin := [], res := .tu [.ag [.e (.var 0), .e (.var 1), .e (.var 2)], .s (.e (.var 3))], post := [], tout := [.int .i64, .int .i64, .int .i64, .bool], gout := [] }
def cl_iFracMirror : List (Nat × Sig) := [(86, sg_iFracValid)]
theorem run_iFracMirror : (fun H : List (Nat × List Sc) => run ⟨Tryz.prog, glb ++ H, cl_iFracMirror⟩ [] Tryz.f135 sg_iFracMirror (Tryz.f135.body.getD .skip)) = fun _ => tr_iFracMirror := by kernel_rfl
theorem om_iFracMirror (lv : LibV) : ΩOK ⟨Tryz.prog, (glb ++ lib lv), cl_iFracMirror⟩ (specsOf Fs_iFracMirror) := (ΩOK_cons (cong_iFracValid lv) Tryz.call86 ΩOK_nil)
theorem con_iFracMirror (lv : LibV) : ConOK Tryz.prog (glb ++ lib lv) 135 sg_iFracMirror F_iFracMirror.spec := conOK_tree (om_iFracMirror lv) mixed Tryz.func135 (by kernel_rfl) (congrFun run_iFracMirror (lib lv))
theorem cong_iFracMirror (lv : LibV) : ConOK Tryz.prog (glb ++ lib lv) 135 sg_iFracMirror G_iFracMirror.spec := (con_iFracMirror lv).as as_iFracMirror
def sg_mirror : Sig := { args := [.s (.p (.own 0) 0), .ag [.e (.var 0), .e (.var 1), .e (.var 2)]], pre := [⟨[.e (.var 3)], 112⟩], tin := [.int .i64, .int .i64, .int .i64, .bool], gin := [], res := .c (.ag [.e (.var 0), .e (.var 1), .e (.var 2)]), post := [⟨[.e (.var 3)], 112⟩], tout := [.int .i64, .int .i64, .int .i64, .bool], gout := [] }
def cl_mirror : List (Nat × Sig) := [(135, sg_iFracMirror), (133, sg_keep)]
theorem run_mirror : (fun H : List (Nat × List Sc) => run ⟨Tryz.prog, glb ++ H, cl_mirror⟩ [] Tryz.f73 sg_mirror (Tryz.f73.body.getD .skip)) = fun _ => tr_mirror := by kernel_rfl
theorem om_mirror (lv : LibV) : ΩOK ⟨Tryz.prog, (glb ++ lib lv), cl_mirror⟩ (specsOf Fs_mirror) := (ΩOK_cons (cong_iFracMirror lv) Tryz.call135 (ΩOK_cons (con_keep lv) Tryz.call133 ΩOK_nil))
theorem con_mirror (lv : LibV) : ConOK Tryz.prog (glb ++ lib lv) 73 sg_mirror F_mirror.spec := conOK_tree (om_mirror lv) mixed Tryz.func73 (by kernel_rfl) (congrFun run_mirror (lib lv))
theorem cong_mirror (lv : LibV) : ConOK Tryz.prog (glb ++ lib lv) 73 sg_mirror G_mirror.spec := (con_mirror lv).as as_mirror
def sg_mcell00 : Sig := { args := [.s (.e (.int .i64 (0))), .s (.e (.int .i64 (0))), .s (.p (.own 0) 0), .s (.p (.own 1) 0), .s (.p (.own 2) 0)], pre := [⟨[.p (.own 3) 0], 110⟩, ⟨[.e (.var 0), .e (.var 1), .e (.var 2), .e (.var 3), .e (.var 4), .e (.var 5), .e (.var 6), .e (.var 7), .e (.var 8), .e (.var 9), .e (.var 10), .e (.var 11)], 44⟩, ⟨[.e (.var 12), .e (.var 13), .e (.var 14), .e (.var 15), .e (.var 16), .e (.var 17), .e (.var 18), .e (.var 19), .e (.var 20), .e (.var 21), .e (.var 22), .e (.var 23)], 44⟩, ⟨[.e (.var 24)], 112⟩], tin := [.int .i64, .int .i64, .int .i64, .int .i64, .int .i64, .int .i64, .int .i64, .int .i64, .int .i64, .int .i64, .int .i64, .int .i64, .int .i64, .int .i64, .int .i64, .int .i64, .int .i64, .int .i64, .int .i64, .int .i64, .int .i64, .int .i64, .int .i64, .int .i64, .bool], gin := [], res := .c (.ag [.e (.var 0), .e (.var 1), .e (.var 2)]), post := [⟨[.p (.own 3) 0], 110⟩, ⟨[.e (.var 3), .e (.var 4), .e (.var 5), .e (.var 6), .e (.var 7), .e (.var 8), .e (.var 9), .e (.var 10), .e (.var 11), .e (.var 12), .e (.var 13), .e (.var 14)], 44⟩, ⟨[.e (.var 15), .e (.var 16), .e (.var 17), .e (.var 18), .e (.var 19), .e (.var 20), .e (.var 21), .e (.var 22), .e (.var 23), .e (.var 24), .e (.var 25), .e (.var 26)], 44⟩, ⟨[.e (.var 27)], 112⟩], tout := [.int .i64, .int .i64, .int .i64, .int .i64, .int .i64, .int .i64, .int .i64, .int .i64, .int .i64, .int .i64, .int .i64, .int .i64, .int .i64, .int .i64, .int .i64, .int .i64, .int .i64, .int .i64, .int .i64, .int .i64, .int .i64, .int .i64, .int .i64, .int .i64, .int .i64, .int .i64, .int .i64, .bool], gout := [] }
def cl_mcell00 : List (Nat × Sig) := [(72, sg_times), (77, sg_add)]
theorem run_mcell00 : (fun H : List (Nat × List Sc) => run ⟨Tryz.prog, glb ++ H, cl_mcell00⟩ [] Tryz.f109 sg_mcell00 (Tryz.f109.body.getD .skip)) = fun _ => tr_mcell00 := by kernel_rfl
theorem om_mcell00 (lv : LibV) : ΩOK ⟨Tryz.prog, (glb ++ lib lv), cl_mcell00⟩ (specsOf Fs_mcell00) := (ΩOK_cons (cong_times lv) Tryz.call72 (ΩOK_cons (cong_add lv) Tryz.call77 ΩOK_nil))
theorem con_mcell00 (lv : LibV) : ConOK Tryz.prog (glb ++ lib lv) 109 sg_mcell00 F_mcell00.spec := conOK_tree (om_mcell00 lv) mixed Tryz.func109 (by kernel_rfl) (congrFun run_mcell00 (lib lv))
theorem cong_mcell00 (lv : LibV) : ConOK Tryz.prog (glb ++ lib lv) 109 sg_mcell00 G_mcell00.spec := (con_mcell00 lv).as as_mcell00
def sg_mcell01 : Sig := { args := [.s (.e (.int .i64 (0))), .s (.e (.int .i64 (1))), .s (.p (.own 0) 0), .s (.p (.own 1) 0), .s (.p (.own 2) 0)], pre := [⟨[.p (.own 3) 0], 110⟩, ⟨[.e (.var 0), .e (.var 1), .e (.var 2), .e (.var 3), .e (.var 4), .e (.var 5), .e (.var 6), .e (.var 7), .e (.var 8), .e (.var 9), .e (.var 10), .e (.var 11)], 44⟩, ⟨[.e (.var 12), .e (.var 13), .e (.var 14), .e (.var 15), .e (.var 16), .e (.var 17), .e (.var 18), .e (.var 19), .e (.var 20), .e (.var 21), .e (.var 22), .e (.var 23)], 44⟩, ⟨[.e (.var 24)], 112⟩], tin := [.int .i64, .int .i64, .int .i64, .int .i64, .int .i64, .int .i64, .int .i64, .int .i64, .int .i64, .int .i64, .int .i64, .int .i64, .int .i64, .int .i64, .int .i64, .int .i64, .int .i64, .int .i64, .int .i64, .int .i64, .int .i64, .int .i64, .int .i64, .int .i64, .bool], gin := [], res := .c (.ag [.e (.var 0), .e (.var 1), .e (.var 2)]), post := [⟨[.p (.own 3) 0], 110⟩, ⟨[.e (.var 3), .e (.var 4), .e (.var 5), .e (.var 6), .e (.var 7), .e (.var 8), .e (.var 9), .e (.var 10), .e (.var 11), .e (.var 12), .e (.var 13), .e (.var 14)], 44⟩, ⟨[.e (.var 15), .e (.var 16), .e (.var 17), .e (.var 18), .e (.var 19), .e (.var 20), .e (.var 21), .e (.var 22), .e (.var 23), .e (.var 24), .e (.var 25), .e (.var 26)], 44⟩, ⟨[.e (.var 27)], 112⟩], tout := [.int .i64, .int .i64, .int .i64, .int .i64, .int .i64, .int .i64, .int .i64, .int .i64, .int .i64, .int .i64, .int .i64, .int .i64, .int .i64, .int .i64, .int .i64, .int .i64, .int .i64, .int .i64, .int .i64, .int .i64, .int .i64, .int .i64, .int .i64, .int .i64, .int .i64, .int .i64, .int .i64, .bool], gout := [] }
def cl_mcell01 : List (Nat × Sig) := [(72, sg_times), (77, sg_add)]
theorem run_mcell01 : (fun H : List (Nat × List Sc) => run ⟨Tryz.prog, glb ++ H, cl_mcell01⟩ [] Tryz.f109 sg_mcell01 (Tryz.f109.body.getD .skip)) = fun _ => tr_mcell01 := by kernel_rfl
theorem om_mcell01 (lv : LibV) : ΩOK ⟨Tryz.prog, (glb ++ lib lv), cl_mcell01⟩ (specsOf Fs_mcell01) := (ΩOK_cons (cong_times lv) Tryz.call72 (ΩOK_cons (cong_add lv) Tryz.call77 ΩOK_nil))
theorem con_mcell01 (lv : LibV) : ConOK Tryz.prog (glb ++ lib lv) 109 sg_mcell01 F_mcell01.spec := conOK_tree (om_mcell01 lv) mixed Tryz.func109 (by kernel_rfl) (congrFun run_mcell01 (lib lv))
theorem cong_mcell01 (lv : LibV) : ConOK Tryz.prog (glb ++ lib lv) 109 sg_mcell01 G_mcell01.spec := (con_mcell01 lv).as as_mcell01
def sg_mcell10 : Sig := { args := [.s (.e (.int .i64 (1))), .s (.e (.int .i64 (0))), .s (.p (.own 0) 0), .s (.p (.own 1) 0), .s (.p (.own 2) 0)], pre := [⟨[.p (.own 3) 0], 110⟩, ⟨[.e (.var 0), .e (.var 1), .e (.var 2), .e (.var 3), .e (.var 4), .e (.var 5), .e (.var 6), .e (.var 7), .e (.var 8), .e (.var 9), .e (.var 10), .e (.var 11)], 44⟩, ⟨[.e (.var 12), .e (.var 13), .e (.var 14), .e (.var 15), .e (.var 16), .e (.var 17), .e (.var 18), .e (.var 19), .e (.var 20), .e (.var 21), .e (.var 22), .e (.var 23)], 44⟩, ⟨[.e (.var 24)], 112⟩], tin := [.int .i64, .int .i64, .int .i64, .int .i64, .int .i64, .int .i64, .int .i64, .int .i64, .int .i64, .int .i64, .int .i64, .int .i64, .int .i64, .int .i64, .int .i64, .int .i64, .int .i64, .int .i64, .int .i64, .int .i64, .int .i64, .int .i64, .int .i64, .int .i64, .bool], gin := [], res := .c (.ag [.e (.var 0), .e (.var 1), .e (.var 2)]), post := [⟨[.p (.own 3) 0], 110⟩, ⟨[.e (.var 3), .e (.var 4), .e (.var 5), .e (.var 6), .e (.var 7), .e (.var 8), .e (.var 9), .e (.var 10), .e (.var 11), .e (.var 12), .e (.var 13), .e (.var 14)], 44⟩, ⟨[.e (.var 15), .e (.var 16), .e (.var 17), .e (.var 18), .e (.var 19), .e (.var 20), .e (.var 21), .e (.var 22), .e (.var 23), .e (.var 24), .e (.var 25), .e (.var 26)], 44⟩, ⟨[.e (.var 27)], 112⟩], tout := [.int .i64, .int .i64, .int .i64, .int .i64, .int .i64, .int .i64, .int .i64, .int .i64, .int .i64, .int .i64, .int .i64, .int .i64, .int .i64, .int .i64, .int .i64, .int .i64, .int .i64, .int .i64, .int .i64, .int .i64, .int .i64, .int .i64, .int .i64, .int .i64, .int .i64, .int .i64, .int .i64, .bool], gout := [] }
def cl_mcell10 : List (Nat × Sig) := [(72, sg_times), (77, sg_add)]
theorem run_mcell10 : (fun H : List (Nat × List Sc) => run ⟨Tryz.prog, glb ++ H, cl_mcell10⟩ [] Tryz.f109 sg_mcell10 (Tryz.f109.body.getD .skip)) = fun _ => tr_mcell10 := by kernel_rfl
theorem om_mcell10 (lv : LibV) : ΩOK ⟨Tryz.prog, (glb ++ lib lv), cl_mcell10⟩ (specsOf Fs_mcell10) := (ΩOK_cons (cong_times lv) Tryz.call72 (ΩOK_cons (cong_add lv) Tryz.call77 ΩOK_nil))
theorem con_mcell10 (lv : LibV) : ConOK Tryz.prog (glb ++ lib lv) 109 sg_mcell10 F_mcell10.spec := conOK_tree (om_mcell10 lv) mixed Tryz.func109 (by kernel_rfl) (congrFun run_mcell10 (lib lv))
theorem cong_mcell10 (lv : LibV) : ConOK Tryz.prog (glb ++ lib lv) 109 sg_mcell10 G_mcell10.spec := (con_mcell10 lv).as as_mcell10
def sg_mcell11 : Sig := { args := [.s (.e (.int .i64 (1))), .s (.e (.int .i64 (1))), .s (.p (.own 0) 0), .s (.p (.own 1) 0), .s (.p (.own 2) 0)], pre := [⟨[.p (.own 3) 0], 110⟩, ⟨[.e (.var 0), .e (.var 1), .e (.var 2), .e (.var 3), .e (.var 4), .e (.var 5), .e (.var 6), .e (.var 7), .e (.var 8), .e (.var 9), .e (.var 10), .e (.var 11)], 44⟩, ⟨[.e (.var 12), .e (.var 13), .e (.var 14), .e (.var 15), .e (.var 16), .e (.var 17), .e (.var 18), .e (.var 19), .e (.var 20), .e (.var 21), .e (.var 22), .e (.var 23)], 44⟩, ⟨[.e (.var 24)], 112⟩], tin := [.int .i64, .int .i64, .int .i64, .int .i64, .int .i64, .int .i64, .int .i64, .int .i64, .int .i64, .int .i64, .int .i64, .int .i64, .int .i64, .int .i64, .int .i64, .int .i64, .int .i64, .int .i64, .int .i64, .int .i64, .int .i64, .int .i64, .int .i64, .int .i64, .bool], gin := [], res := .c (.ag [.e (.var 0), .e (.var 1), .e (.var 2)]), post := [⟨[.p (.own 3) 0], 110⟩, ⟨[.e (.var 3), .e (.var 4), .e (.var 5), .e (.var 6), .e (.var 7), .e (.var 8), .e (.var 9), .e (.var 10), .e (.var 11), .e (.var 12), .e (.var 13), .e (.var 14)], 44⟩, ⟨[.e (.var 15), .e (.var 16), .e (.var 17), .e (.var 18), .e (.var 19), .e (.var 20), .e (.var 21), .e (.var 22), .e (.var 23), .e (.var 24), .e (.var 25), .e (.var 26)], 44⟩, ⟨[.e (.var 27)], 112⟩], tout := [.int .i64, .int .i64, .int .i64, .int .i64, .int .i64, .int .i64, .int .i64, .int .i64, .int .i64, .int .i64, .int .i64, .int .i64, .int .i64, .int .i64, .int .i64, .int .i64, .int .i64, .int .i64, .int .i64, .int .i64, .int .i64, .int .i64, .int .i64, .int .i64, .int .i64, .int .i64, .int .i64, .bool], gout := [] }
def cl_mcell11 : List (Nat × Sig) := [(72, sg_times), (77, sg_add)]
theorem run_mcell11 : (fun H : List (Nat × List Sc) => run ⟨Tryz.prog, glb ++ H, cl_mcell11⟩ [] Tryz.f109 sg_mcell11 (Tryz.f109.body.getD .skip)) = fun _ => tr_mcell11 := by kernel_rfl
theorem om_mcell11 (lv : LibV) : ΩOK ⟨Tryz.prog, (glb ++ lib lv), cl_mcell11⟩ (specsOf Fs_mcell11) := (ΩOK_cons (cong_times lv) Tryz.call72 (ΩOK_cons (cong_add lv) Tryz.call77 ΩOK_nil))
theorem con_mcell11 (lv : LibV) : ConOK Tryz.prog (glb ++ lib lv) 109 sg_mcell11 F_mcell11.spec := conOK_tree (om_mcell11 lv) mixed Tryz.func109 (by kernel_rfl) (congrFun run_mcell11 (lib lv))
theorem cong_mcell11 (lv : LibV) : ConOK Tryz.prog (glb ++ lib lv) 109 sg_mcell11 G_mcell11.spec := (con_mcell11 lv).as as_mcell11
def sg_gotMat : Sig := { args := [.s (.p (.own 0) 0), .ag [.e (.var 0), .e (.var 1), .e (.var 2), .e (.var 3), .e (.var 4), .e (.var 5), .e (.var 6), .e (.var 7), .e (.var 8), .e (.var 9), .e (.var 10), .e (.var 11)]], pre := [⟨[.e (.var 12)], 112⟩], tin := [.int .i64, .int .i64, .int .i64, .int .i64, .int .i64, .int .i64, .int .i64, .int .i64, .int .i64, .int .i64, .int .i64, .int .i64, .bool], gin := [], res := .tu [.ag [.e (.var 0), .e (.var 1), .e (.var 2), .e (.var 3), .e (.var 4), .e (.var 5), .e (.var 6), .e (.var 7), .e (.var 8), .e (.var 9), .e (.var 10), .e (.var 11)], .s (.e (.var 12))], post := [⟨[.e (.var 13)], 112⟩], tout := [.int .i64, .int .i64, .int .i64, .int .i64, .int .i64, .int .i64, .int .i64, .int .i64, .int .i64, .int .i64, .int .i64, .int .i64, .bool, .bool], gout := [] }
def cl_gotMat : List (Nat × Sig) := []
theorem run_gotMat : (fun H : List (Nat × List Sc) => run ⟨Tryz.prog, glb ++ H, cl_gotMat⟩ [] Tryz.f108 sg_gotMat (Tryz.f108.body.getD .skip)) = fun _ => tr_gotMat := by kernel_rfl
theorem om_gotMat (lv : LibV) : ΩOK ⟨Tryz.prog, (glb ++ lib lv), cl_gotMat⟩ (specsOf Fs_gotMat) := ΩOK_nil
theorem con_gotMat (lv : LibV) : ConOK Tryz.prog (glb ++ lib lv) 108 sg_gotMat F_gotMat.spec := conOK_tree (om_gotMat lv) mixed Tryz.func108 (by kernel_rfl) (congrFun run_gotMat (lib lv))
theorem cong_gotMat (lv : LibV) : ConOK Tryz.prog (glb ++ lib lv) 108 sg_gotMat G_gotMat.spec := (con_gotMat lv).as as_gotMat
def sg_iMatTimes : Sig := { args := [.ag [.e (.var 0), .e (.var 1), .e (.var 2), .e (.var 3), .e (.var 4), .e (.var 5), .e (.var 6), .e (.var 7), .e (.var 8), .e (.var 9), .e (.var 10), .e (.var 11)], .ag [.e (.var 12), .e (.var 13), .e (.var 14), .e (.var 15), .e (.var 16), .e (.var 17), .e (.var 18), .e (.var 19), .e (.var 20), .e (.var 21), .e (.var 22), .e (.var 23)]], pre := [], tin := [.int .i64, .int .i64, .int .i64, .int .i64, .int .i64, .int .i64, .int .i64, .int .i64, .int .i64, .int .i64, .int .i64, .int .i64, .int .i64, .int .i64, .int .i64, .int .i64, .int .i64, .int .i64, .int .i64, .int .i64, .int .i64, .int .i64, .int .i64, .int .i64], gin := [], res := .tu [.ag [.e (.var 0), .e (.var 1), .e (.var 2), .e (.var 3), .e (.var 4), .e (.var 5), .e (.var 6), .e (.var 7), .e (.var 8), .e (.var 9), .e (.var 10), .e (.var 11)], .s (.e (.var 12))], post := [], tout := [.int .i64, .int .i64, .int .i64, .int .i64, .int .i64, .int .i64, .int .i64, .int .i64, .int .i64, .int .i64, .int .i64, .int .i64, .bool], gout := [] }
def cl_iMatTimes : List (Nat × Sig) := [(69, sg_iMatValid), (68, sg_need), (109, sg_mcell00), (109, sg_mcell01), (109, sg_mcell10), (109, sg_mcell11), (108, sg_gotMat)]
theorem run_iMatTimes : (fun H : List (Nat × List Sc) => run ⟨Tryz.prog, glb ++ H, cl_iMatTimes⟩ [] Tryz.f45 sg_iMatTimes (Tryz.f45.body.getD .skip)) = fun _ => tr_iMatTimes := by kernel_rfl
theorem om_iMatTimes (lv : LibV) : ΩOK ⟨Tryz.prog, (glb ++ lib lv), cl_iMatTimes⟩ (specsOf Fs_iMatTimes) := (ΩOK_cons (cong_iMatValid lv) Tryz.call69 (ΩOK_cons (cong_need lv) Tryz.call68 (ΩOK_cons (cong_mcell00 lv) Tryz.call109 (ΩOK_cons (cong_mcell01 lv) Tryz.call109 (ΩOK_cons (cong_mcell10 lv) Tryz.call109 (ΩOK_cons (cong_mcell11 lv) Tryz.call109 (ΩOK_cons (cong_gotMat lv) Tryz.call108 ΩOK_nil)))))))
theorem con_iMatTimes (lv : LibV) : ConOK Tryz.prog (glb ++ lib lv) 45 sg_iMatTimes F_iMatTimes.spec := conOK_tree (om_iMatTimes lv) mixed Tryz.func45 (by kernel_rfl) (congrFun run_iMatTimes (lib lv))
theorem cong_iMatTimes (lv : LibV) : ConOK Tryz.prog (glb ++ lib lv) 45 sg_iMatTimes G_iMatTimes.spec := (con_iMatTimes lv).as as_iMatTimes
def sg_pick : Sig := { args := [.s (.p (.own 0) 0), .s (.e (.var 0))], pre := [⟨[.e (.var 1), .e (.var 2)], 162⟩], tin := [.int .i64, .sl, .int .i64, .row .u8 1], gin := [(1, 3, 1)], res := .c (.s (.e (.var 0))), post := [⟨[.e (.var 1), .e (.var 2)], 162⟩], tout := [.int .i64, .sl, .int .i64], gout := [] }
def cl_pick : List (Nat × Sig) := []
theorem run_pick : (fun H : List (Nat × List Sc) => run ⟨Tryz.prog, glb ++ H, cl_pick⟩ [] Tryz.f105 sg_pick (Tryz.f105.body.getD .skip)) = fun _ => tr_pick := by kernel_rfl
theorem om_pick (lv : LibV) : ΩOK ⟨Tryz.prog, (glb ++ lib lv), cl_pick⟩ (specsOf Fs_pick) := ΩOK_nil
theorem con_pick (lv : LibV) : ConOK Tryz.prog (glb ++ lib lv) 105 sg_pick F_pick.spec := conOK_tree (om_pick lv) mixed Tryz.func105 (by kernel_rfl) (congrFun run_pick (lib lv))
def sg_pickC : Sig := { args := [.s (.p (.own 0) 0), .s (.e (.var 0))], pre := [⟨[.e (.var 1), .e (.var 2)], 162⟩], tin := [.int .i64, .sl, .int .i64], gin := [], res := .c (.s (.e (.var 0))), post := [⟨[.e (.var 1), .e (.var 2)], 162⟩], tout := [.int .i64, .sl, .int .i64], gout := [] }
theorem con_pickC (lv : LibV) {cb : CodeB} (hk : CodeOk cb) (hG : Known cb (glb ++ lib lv ++ cb.tail)) : ConOK Tryz.prog (glb ++ lib lv ++ cb.tail) 105 sg_pickC (G_pick cb).spec := conOK_ghost (t := 162) hk hG (con_pick lv).more (ghost_pick hk)
def sg_openC : Sig := { args := [.s (.e (.var 0))], pre := [], tin := [.sl], gin := [], res := .c (.s (.p (.own 0) 0)), post := [⟨[.e (.var 0), .e (.var 1)], 162⟩], tout := [.sl, .int .i64], gout := [] }
set_option maxHeartbeats 800000 in
set_option maxRecDepth 1000000 in
theorem open_short (a : Option Addr) (len cap : Nat) (w : World) (hl : len ≤ 2000) :
    Calls Tryz.prog 62 #[.slice a len cap] w fun e w' => e = .returned (.pointer (some ⟨w.heap.size, 0, none⟩)) ∧ w' = w.alloc (.cells #[.slice a len cap, .int .i64 0] 162) := by
  go_enter Tryz.func62, Tryz.ntmps62
  go_wp2
  go_ret
  exact ⟨rfl, rfl⟩
set_option maxHeartbeats 800000 in
set_option maxRecDepth 1000000 in
theorem open_long (a : Addr) (len cap : Nat) (w : World) (hl : ¬ len ≤ 2000) (hc : len ≤ cap) (hm : len ≤ 1048576) :
    Calls Tryz.prog 62 #[.slice (some a) len cap] w fun e w' => e = .returned (.pointer (some ⟨w.heap.size, 0, none⟩)) ∧ w' = w.alloc (.cells #[.slice (some a) 2000 cap, .int .i64 0] 162) := by
  go_enter Tryz.func62, Tryz.ntmps62
  go_wp2
  go_ret
  exact ⟨rfl, rfl⟩
theorem con_openC (lv : LibV) {cb : CodeB} (_ : CodeOk cb) (_ : Known cb (glb ++ lib lv ++ cb.tail)) : ConOK Tryz.prog (glb ++ lib lv ++ cb.tail) 62 sg_openC (G_open cb).spec := conOK_open (t := 162) open_short open_long
def sg_l91Direction : Sig := { args := [.s (.p (.own 0) 0)], pre := [⟨[.e (.var 0), .e (.var 1)], 162⟩], tin := [.sl, .int .i64], gin := [], res := .tu [.s (.e (.var 0)), .s (.e (.var 1))], post := [⟨[.e (.var 2), .e (.var 3)], 162⟩], tout := [.int .i64, .int .i64, .sl, .int .i64], gout := [] }
def cl_l91Direction : List (Nat × Sig) := [(105, sg_pickC)]
theorem run_l91Direction : (fun H : List (Nat × List Sc) => run ⟨Tryz.prog, glb ++ H, cl_l91Direction⟩ [] Tryz.f100 sg_l91Direction (Tryz.f100.body.getD .skip)) = fun _ => tr_l91Direction := by kernel_rfl
theorem om_l91Direction (lv : LibV) {cb : CodeB} (hk : CodeOk cb) (hG : Known cb (glb ++ lib lv ++ cb.tail)) : ΩOK ⟨Tryz.prog, glb ++ lib lv ++ cb.tail, cl_l91Direction⟩ (specsOf (Fs_l91Direction cb)) := (ΩOK_cons (con_pickC lv hk hG) Tryz.call105 ΩOK_nil)
theorem con_l91Direction (lv : LibV) {cb : CodeB} (hk : CodeOk cb) (hG : Known cb (glb ++ lib lv ++ cb.tail)) : ConOK Tryz.prog (glb ++ lib lv ++ cb.tail) 100 sg_l91Direction (F_l91Direction cb).spec := conOK_tree (om_l91Direction lv hk hG) mixed Tryz.func100 (by kernel_rfl) (congrFun run_l91Direction (lib lv ++ cb.tail))
def sg_Split : Sig := { args := [.s (.e (.var 0)), .s (.e (.var 1))], pre := [], tin := [.str, .str], gin := [], res := .c (.s (.e (.var 0))), post := [], tout := [.sl, .rowC [.str]], gout := [(0, 1, 1)] }
theorem con_Split (lv : LibV) : ConOK Tryz.prog (glb ++ lib lv) 122 sg_Split SP_Split :=
  conOK_split (t := 9) fun s sep w hg hs h1 => Tryz.strings_Split s sep lv.m w hs (glb_first (g := 5) (x := .int .i64 lv.m) hg rfl) h1
def sg_Join : Sig := { args := [.s (.e (.var 0)), .s (.e (.var 1))], pre := [], tin := [.sl, .str, .rowC [.str]], gin := [(0, 2, 1)], res := .c (.s (.e (.var 0))), post := [], tout := [.str], gout := [] }
theorem con_Join (lv : LibV) : ConOK Tryz.prog (glb ++ lib lv) 151 sg_Join SP_Join :=
  conOK_join Tryz.strings_Join_none Tryz.strings_Join
def sg_Itoa : Sig := { args := [.s (.e (.var 0))], pre := [], tin := [.int .i64], gin := [], res := .c (.s (.e (.var 0))), post := [], tout := [.str], gout := [] }
theorem itoa_walk (lv : LibV) (n : Int) (w : World) (hg : GlbOk (glb ++ lib lv) w) (h0 : -9223372036854775808 ≤ n) (h1 : n ≤ 9223372036854775807) :
    Calls Tryz.prog 102 #[.int .i64 n] w fun e w' => e = .returned (.string ⟨(Lib.itoa n).toArray⟩) ∧ RowKit.Below w.heap.size w w' :=
  (Tryz.strconv_Itoa n h0 h1 w (tab_var (g := 4) (zs := Lib.pow10Tab) hg (by kernel_rfl) (by decide) (by kernel_rfl))).mono fun e w' ⟨he, k, os, hw⟩ => ⟨he, by rw [hw]; exact below_grow w k os⟩
theorem con_Itoa (lv : LibV) : ConOK Tryz.prog (glb ++ lib lv) 102 sg_Itoa SP_Itoa := conOK_itoa (itoa_walk lv)
def sg_plainNumber : Sig := { args := [.s (.e (.var 0))], pre := [], tin := [.str], gin := [], res := .tu [.s (.e (.var 0)), .s (.e (.var 1))], post := [], tout := [.int .i64, .bool], gout := [] }
theorem num_tab (lv : LibV) {w : World} (hg : GlbOk (glb ++ lib lv) w) : Lib.TabIs Tryz.prog w "internal/strconv.uint64pow10" .u64 Lib.pow10Tab := tab_var (g := 4) (zs := Lib.pow10Tab) hg (by kernel_rfl) (by decide) (by kernel_rfl)
set_option maxHeartbeats 800000 in
set_option maxRecDepth 1000000 in
theorem number_walk (lv : LibV) (l : List UInt8) (w : World) (hg : GlbOk (glb ++ lib lv) w) (hl : l.length ≤ 2097152) :
    Calls Tryz.prog 164 #[bv l] w fun e w' => ∃ z b, e = .returned (.tuple #[.int .i64 z, .bool b]) ∧ I64 z ∧ (match num l with
      | some n => z = n ∧ b = true
      | none => b = false) ∧ RowKit.Below w.heap.size w w' := by
  have hsz : (⟨l.toArray⟩ : ByteArray).size = l.length := size_bv l
  have htab := num_tab lv hg
  have he1 : w.cell? ⟨8, 0, none⟩ = some lv.es := glb_first (x := .val lv.es) hg rfl
  have he2 : w.cell? ⟨9, 0, none⟩ = some lv.er := glb_first (x := .val lv.er) hg rfl
  unfold bv
  cases h : Lib.atoiAll l with
  | ok v =>
    obtain ⟨v0, v1⟩ := Lib.atoiAll_bounds h
    have hn : num l = if Lib.itoa v = l then some v else none := by unfold num; rw [h]
    rw [hn]
    have hB : ∀ W1, (W1 = w ∨ ∃ t, W1 = Lib.bytesWorld w 5 t) → Below w.heap.size w W1 := by
      rintro W1 (rfl | ⟨t, rfl⟩)
      · exact Below.refl _ _
      · exact Lib.bytesWorld_below w _ t
    have hT : ∀ W1, (W1 = w ∨ ∃ t, W1 = Lib.bytesWorld w 5 t) → Lib.TabIs Tryz.prog W1 "internal/strconv.uint64pow10" .u64 Lib.pow10Tab := fun W1 h1 => var_below (hB W1 h1) htab
    go_enter Tryz.func164, Tryz.ntmps164
    go_wp2_with (first | (go_at_call 184; refine (Tryz.strconv_Atoi_ok ⟨l.toArray⟩ (by rw [hsz]; omega) v h _).mono ?_; rintro e W1 ⟨rfl, hW⟩) | (go_at_call 102; refine (Tryz.strconv_Itoa v v0 v1 _ (hT _ hW)).mono ?_; rintro e W2 ⟨rfl, k, os, hW2⟩))
    · go_ret2
      exact ⟨v, rfl, ⟨v0, v1⟩, rfl, (hB _ hW).trans ((below_grow W1 k os).mono (hB _ hW).size)⟩
    · have hf : (Lib.itoa v == l) = false := by rw [beq_eq_false_iff_ne]; assumption
      rw [hf]
      go_ret2
      exact ⟨v, rfl, ⟨v0, v1⟩, (hB _ hW).trans ((below_grow W1 k os).mono (hB _ hW).size)⟩
  | «syntax» =>
    have hn : num l = none := by unfold num; rw [h]
    rw [hn]
    go_enter Tryz.func164, Tryz.ntmps164
    go_wp2_with (first | (go_at_call 184; refine (Tryz.strconv_Atoi_syntax ⟨l.toArray⟩ (by rw [hsz]; omega) h lv.es _ he1 lv.okS).mono ?_; rintro e W1 ⟨N, rfl, hN1, hN2, hB⟩) | (go_at_call 102; fail))
    go_ret2
    exact ⟨0, false, rfl, by unfold I64; omega, rfl, hB⟩
  | range =>
    have hn : num l = none := by unfold num; rw [h]
    rw [hn]
    go_enter Tryz.func164, Tryz.ntmps164
    go_wp2_with (first | (go_at_call 184; refine (Tryz.strconv_Atoi_range ⟨l.toArray⟩ (by rw [hsz]; omega) h lv.er _ he2 lv.okR).mono ?_; rintro e W1 ⟨N, rfl, hN1, hN2, hB⟩) | (go_at_call 102; fail))
    go_ret2
    exact ⟨_, false, rfl, by unfold I64 Lib.atoiSat; split <;> omega, rfl, hB⟩
theorem con_plainNumber (lv : LibV) : ConOK Tryz.prog (glb ++ lib lv) 164 sg_plainNumber SP_plainNumber := conOK_num (number_walk lv)
def sg_l6Dec : Sig := { args := [.s (.e (.var 0))], pre := [], tin := [.int .i64], gin := [], res := .c (.s (.e (.var 0))), post := [], tout := [.str], gout := [] }
theorem dec_conv (w : World) (t : TypeId) (x : Int) (fr : Nat × Nat) (g : Nat) (hg : g = w.heap.size) :
    (convert 36 9 (.slice (some ⟨g, 0, none⟩) 1 1)).run Tryz.prog (w.alloc (.cells #[.int .u8 x] t fr)) = .ok (.string ⟨#[UInt8.ofNat x.toNat]⟩) (w.alloc (.cells #[.int .u8 x] t fr)) := by
  subst hg
  have h := run_convert_bytes_arg (P := Tryz.prog) (w.alloc (.cells #[.int .u8 x] t fr)) 36 5 Tryz.underlying36 Tryz.underlying5 w.heap.size 0 1 1 [x] rfl (fun i hi => by
    have : i = 0 := by omega
    subst this
    rw [World.cell?_alloc_mark]
    rfl) 9 Tryz.underlying9
  exact h
theorem dec_conv_drew (w : World) (t : TypeId) (x : Int) (g : Nat) (hg : g = w.heap.size) :
    (convert 36 9 (.slice (some ⟨g, 0, none⟩) 1 1)).run Tryz.prog (w.alloc (.cells #[.int .u8 x] t)).drew = .ok (.string ⟨#[UInt8.ofNat x.toNat]⟩) (w.alloc (.cells #[.int .u8 x] t)).drew := by
  subst hg
  exact run_convert_bytes_arg (P := Tryz.prog) _ 36 5 Tryz.underlying36 Tryz.underlying5 w.heap.size 0 1 1 [x] rfl (fun i hi => by
    have : i = 0 := by omega
    subst this
    show (w.alloc _).cell? _ = _
    rw [World.cell?_alloc_mark]
    rfl) 9 Tryz.underlying9
theorem dec_conv_later {w W : World} {t : TypeId} {x : Int} (hb : RowKit.Below (w.alloc (.cells #[.int .u8 x] t)).drew.heap.size (w.alloc (.cells #[.int .u8 x] t)).drew W) (g : Nat) (hg : g = w.heap.size) :
    (convert 36 9 (.slice (some ⟨g, 0, none⟩) 1 1)).run Tryz.prog W = .ok (.string ⟨#[UInt8.ofNat x.toNat]⟩) W := by
  subst hg
  exact run_convert_bytes_arg (P := Tryz.prog) W 36 5 Tryz.underlying36 Tryz.underlying5 w.heap.size 0 1 1 [x] rfl (fun i hi => by
    have : i = 0 := by omega
    subst this
    rw [hb.cell (by show w.heap.size < (w.alloc _).heap.size; rw [World.size_alloc]; exact Nat.lt_succ_self _)]
    show (w.alloc _).cell? _ = _
    rw [World.cell?_alloc_mark]
    rfl) 9 Tryz.underlying9
theorem dec_one {n : Int} (h0 : 0 ≤ n) (h1 : n < 10) : Lib.itoa n = [UInt8.ofNat (48 + n).toNat] := by
  obtain ⟨u, rfl⟩ := Int.eq_ofNat_of_zero_le h0
  rw [Lib.itoa_nonneg, Lib.decDigits_one (by omega)]
  congr 2
theorem dec_step {n : Int} (h0 : 10 ≤ n) : Lib.itoa n = Lib.itoa (n / 10) ++ [UInt8.ofNat (48 + n % 10).toNat] := by
  obtain ⟨u, rfl⟩ := Int.eq_ofNat_of_zero_le (show 0 ≤ n by omega)
  have e : ((u : Int) / 10) = ((u / 10 : Nat) : Int) := by omega
  rw [e, Lib.itoa_nonneg, Lib.itoa_nonneg, Lib.decDigits, dif_neg (by omega)]
  congr 3
theorem dec_minus {n : Int} (h1 : n < 0) : Lib.itoa n = 45 :: Lib.itoa (-n) := by
  obtain ⟨u, hu⟩ := Int.eq_ofNat_of_zero_le (show 0 ≤ -n by omega)
  have e : n = -(u : Int) := by omega
  subst e
  rw [Lib.itoa_neg u (by omega), Int.neg_neg, Lib.itoa_nonneg]
theorem dec_b1 {w W1 : World} (h : RowKit.Below w.drew.heap.size w.drew W1) (o : Obj) : RowKit.Below w.heap.size w (W1.alloc o) :=
  RowKit.Below.alloc (((RowKit.Below.refl _ w).drew).trans h) h.size o
theorem dec_b2 {w W1 : World} {o : Obj} (h : RowKit.Below (w.alloc o).drew.heap.size (w.alloc o).drew W1) : RowKit.Below w.heap.size w W1 :=
  (((RowKit.Below.refl _ w).alloc (Nat.le_refl _) o).drew).trans (h.mono (by show w.heap.size ≤ (w.alloc o).heap.size; rw [World.size_alloc]; omega))
theorem dec_app (a b : List UInt8) : (⟨a.toArray⟩ ++ ⟨b.toArray⟩ : ByteArray) = ⟨(a ++ b).toArray⟩ := by
  apply ByteArray.ext
  simp
set_option maxHeartbeats 800000 in
set_option maxRecDepth 1000000 in
theorem dec_small (n : Int) (w : World) (h0 : 0 ≤ n) (h1 : n < 10) : Calls Tryz.prog 104 #[.int .i64 n] w fun e w' => e = .returned (bv (Lib.itoa n)) ∧ RowKit.Below w.heap.size w w' := by
  have hA : ¬ n < -9223372036854775807 := by omega
  have hB : ¬ n < 0 := by omega
  have hcv := dec_conv
  have hcv2 := dec_conv_drew
  have hw := dec_one h0 h1
  go_enter Tryz.func104, Tryz.ntmps104
  go_wp2_with (first | (go_at_call 104; fail))
  all_goals go_ret
  all_goals exact ⟨rfl, RowKit.Below.alloc (RowKit.Below.refl _ _) (Nat.le_refl _) _⟩
set_option maxHeartbeats 3200000 in
set_option maxRecDepth 1000000 in
theorem dec_big (n : Int) (w : World) (h0 : 10 ≤ n) (h1 : n ≤ 9223372036854775807) (l : List UInt8) (hl : l.length ≤ 21) (ih : ∀ w, Calls Tryz.prog 104 #[.int .i64 (n / 10)] w fun e w' => e = .returned (.string ⟨l.toArray⟩) ∧ RowKit.Below w.heap.size w w') : Calls Tryz.prog 104 #[.int .i64 n] w fun e w' => e = .returned (.string ⟨(l ++ [UInt8.ofNat (48 + n % 10).toNat]).toArray⟩) ∧ RowKit.Below w.heap.size w w' := by
  have hA : ¬ n < -9223372036854775807 := by omega
  have hB : ¬ n < 0 := by omega
  have hC : ¬ n < 10 := by omega
  have hD : n.tdiv 10 = n / 10 := Int.tdiv_eq_ediv_of_nonneg (by omega)
  have hM : n.tmod 10 = n % 10 := Int.tmod_eq_emod_of_nonneg (by omega)
  have hL : ¬ 9223372036854775807 < l.length + 1 := by omega
  have hW1 : IntKind.i64.wrap (n / 10) = n / 10 := by apply wrap_of_range <;> simp only [IntKind.min, IntKind.max, IntKind.signed, IntKind.bits] <;> simp <;> omega
  have hW2 : IntKind.i64.wrap (48 + n % 10) = 48 + n % 10 := by apply wrap_of_range <;> simp only [IntKind.min, IntKind.max, IntKind.signed, IntKind.bits] <;> simp <;> omega
  have hW3 : IntKind.u8.wrap (48 + n % 10) = 48 + n % 10 := by apply wrap_of_range <;> simp only [IntKind.min, IntKind.max, IntKind.signed, IntKind.bits] <;> simp <;> omega
  have hcv := dec_conv
  have hcv2 := dec_conv_drew
  go_enter Tryz.func104, Tryz.ntmps104
  go_wp2_with (first | (go_at_call 104; fail))
  all_goals (go_region_with ((go_at_call 104; refine (ih _).mono ?_; rintro e W1 ⟨rfl, hb1⟩; try have hk : (convert 36 9 (.slice (some ⟨w.heap.size, 0, none⟩) 1 1)).run Tryz.prog W1 = _ := dec_conv_later hb1 _ rfl)))
  all_goals go_wp2
  all_goals go_ret
  all_goals refine ⟨congrArg (fun s => Ending.returned (.string s)) (dec_app l [UInt8.ofNat (48 + n % 10).toNat]), ?_⟩
  · exact dec_b1 hb1 _
  · exact dec_b2 hb1
  · exact dec_b2 hb1
set_option maxHeartbeats 800000 in
set_option maxRecDepth 1000000 in
theorem dec_neg (n : Int) (w : World) (h0 : -9223372036854775807 ≤ n) (h1 : n < 0) (hl : (Lib.itoa (-n)).length ≤ 21) (ih : ∀ w, Calls Tryz.prog 104 #[.int .i64 (-n)] w fun e w' => e = .returned (.string ⟨(Lib.itoa (-n)).toArray⟩) ∧ RowKit.Below w.heap.size w w') : Calls Tryz.prog 104 #[.int .i64 n] w fun e w' => e = .returned (bv (45 :: Lib.itoa (-n))) ∧ RowKit.Below w.heap.size w w' := by
  have hA : ¬ n < -9223372036854775807 := by omega
  have hB : n < 0 := h1
  have hL : ¬ 9223372036854775807 < 1 + (Lib.itoa (-n)).length := by omega
  unfold bv
  go_enter Tryz.func104, Tryz.ntmps104
  go_wp2_with (first | (go_at_call 104; refine (ih _).mono ?_; rintro e W1 ⟨rfl, hb1⟩))
  all_goals go_ret
  all_goals exact ⟨by congr 2, hb1⟩
set_option maxHeartbeats 800000 in
set_option maxRecDepth 1000000 in
theorem dec_least (w : World) : Calls Tryz.prog 104 #[.int .i64 (-9223372036854775808)] w fun e w' => e = .returned (bv (Lib.itoa (-9223372036854775808))) ∧ RowKit.Below w.heap.size w w' := by
  have hw : Lib.itoa (-9223372036854775808) = "-9223372036854775808".toUTF8.data.toList := by decide +kernel
  rw [hw]
  go_enter Tryz.func104, Tryz.ntmps104
  go_wp2_with (first | (go_at_call 104; fail))
  all_goals go_ret
  all_goals exact ⟨rfl, RowKit.Below.refl _ _⟩
theorem dec_pos : ∀ (b : Nat) (n : Int) (w : World), 0 ≤ n → n ≤ 9223372036854775807 → n ≤ b → Calls Tryz.prog 104 #[.int .i64 n] w fun e w' => e = .returned (bv (Lib.itoa n)) ∧ RowKit.Below w.heap.size w w'
  | b, n, w, h0, h1, hb => by
    by_cases h : n < 10
    · exact dec_small n w h0 h
    · cases b with
      | zero => exact absurd hb (by omega)
      | succ b =>
        refine (dec_big n w (by omega) h1 (Lib.itoa (n / 10)) (Lib.itoa_length_le _ (by omega) (by omega)) fun w' => dec_pos b (n / 10) w' (by omega) (by omega) (by omega)).mono ?_
        rintro e w' ⟨rfl, hB⟩
        refine ⟨?_, hB⟩
        rw [dec_step (n := n) (by omega)]
        rfl
theorem dec_walk (n : Int) (w : World) (h0 : -9223372036854775808 ≤ n) (h1 : n ≤ 9223372036854775807) : Calls Tryz.prog 104 #[.int .i64 n] w fun e w' => e = .returned (bv (Lib.itoa n)) ∧ RowKit.Below w.heap.size w w' := by
  by_cases hp : 0 ≤ n
  · exact dec_pos n.toNat n w hp h1 (by omega)
  · by_cases hm : n = -9223372036854775808
    · subst hm; exact dec_least w
    · rw [dec_minus (by omega)]
      exact dec_neg n w (by omega) (by omega) (Lib.itoa_length_le _ (by omega) (by omega)) fun w' => dec_pos (-n).toNat (-n) w' (by omega) (by omega) (by omega)
theorem con_l6Dec (lv : LibV) : ConOK Tryz.prog (glb ++ lib lv) 104 sg_l6Dec SP_l6Dec := conOK_itoa fun n w _ h0 h1 => dec_walk n w h0 h1
def sg_l7Cut : Sig := { args := [.s (.e (.var 0)), .s (.e (.var 1))], pre := [], tin := [.str, .int .u8], gin := [], res := .c (.s (.e (.var 0))), post := [], tout := [.sl, .rowC [.str]], gout := [(0, 1, 1)] }
def cl_l7Cut : List (Nat × Sig) := []
theorem run_l7Cut : (fun H : List (Nat × List Sc) => run ⟨Tryz.prog, glb ++ H, cl_l7Cut⟩ [(0, ⟨[(7, .int .i64), (6, .int .i64), (5, .sl)], [], some (2, .rowC [.str], 1, 9)⟩)] Tryz.f113 sg_l7Cut (Tryz.f113.body.getD .skip)) = fun _ => tr_l7Cut := by kernel_rfl
theorem om_l7Cut (lv : LibV) : ΩOK ⟨Tryz.prog, (glb ++ lib lv), cl_l7Cut⟩ (specsOf Fs_l7Cut) := ΩOK_nil
theorem con_l7Cut (lv : LibV) : ConOK Tryz.prog (glb ++ lib lv) 113 sg_l7Cut SP_l7Cut := conOK_of (om_l7Cut lv) mixed Tryz.func113 (by kernel_rfl) (congrFun run_l7Cut (lib lv)) (fun ins K ht h => sat_l7Cut Tryz.prog ins K ht h)
def sg_l7Number : Sig := { args := [.s (.e (.var 0))], pre := [], tin := [.str], gin := [], res := .tu [.s (.e (.var 0)), .s (.e (.var 1))], post := [], tout := [.int .i64, .bool], gout := [] }
def cl_l7Number : List (Nat × Sig) := [(153, sg_l6In), (104, sg_l6Dec)]
theorem run_l7Number : (fun H : List (Nat × List Sc) => run ⟨Tryz.prog, glb ++ H, cl_l7Number⟩ [(0, ⟨[(6, .int .i64), (5, .int .i64), (4, .int .i64)], [], none⟩)] Tryz.f156 sg_l7Number (Tryz.f156.body.getD .skip)) = fun _ => tr_l7Number := by kernel_rfl
theorem om_l7Number (lv : LibV) : ΩOK ⟨Tryz.prog, (glb ++ lib lv), cl_l7Number⟩ Ss_l7Number := (ΩOK_consS (cong_l6In lv) Tryz.call153 (ΩOK_consS (con_l6Dec lv) Tryz.call104 ΩOK_nilS))
theorem con_l7Number (lv : LibV) : ConOK Tryz.prog (glb ++ lib lv) 156 sg_l7Number SP_l7Number := conOK_of (om_l7Number lv) mixed Tryz.func156 (by kernel_rfl) (congrFun run_l7Number (lib lv)) (fun ins K ht h => sat_l7Number Tryz.prog ins K ht h)
def sg_l7One : Sig := { args := [.s (.e (.var 0))], pre := [], tin := [.str], gin := [], res := .tu [.ag [.e (.var 0), .e (.var 1)], .s (.e (.var 2))], post := [], tout := [.int .u8, .sl, .bool, .row .i64 1], gout := [(1, 3, 1)] }
def cl_l7One : List (Nat × Sig) := [(113, sg_l7Cut), (156, sg_l7Number), (103, sg_l5Direction), (153, sg_l6In)]
theorem run_l7One : (fun H : List (Nat × List Sc) => run ⟨Tryz.prog, glb ++ H, cl_l7One⟩ [(0, ⟨[(6, .int .i64)], [(1, 1, .sl)], some (1, .row .i64 1, 1, 3)⟩)] Tryz.f114 sg_l7One (Tryz.f114.body.getD .skip)) = fun _ => tr_l7One := by kernel_rfl
theorem om_l7One (lv : LibV) : ΩOK ⟨Tryz.prog, (glb ++ lib lv), cl_l7One⟩ Ss_l7One := (ΩOK_consS (con_l7Cut lv) Tryz.call113 (ΩOK_consS (con_l7Number lv) Tryz.call156 (ΩOK_consS (cong_l5Direction lv) Tryz.call103 (ΩOK_consS (cong_l6In lv) Tryz.call153 ΩOK_nilS))))
theorem con_l7One (lv : LibV) : ConOK Tryz.prog (glb ++ lib lv) 114 sg_l7One SP_l7One := conOK_of (om_l7One lv) mixed Tryz.func114 (by kernel_rfl) (congrFun run_l7One (lib lv)) (fun ins K ht h => sat_l7One Tryz.prog ins K ht h)
def sg_l7Bench : Sig := { args := [.s (.e (.var 0))], pre := [], tin := [.str], gin := [], res := .tu [.s (.e (.var 0)), .s (.e (.var 1))], post := [], tout := [.sl, .bool, .rowC [.int .u8, .fat .i64 1]], gout := [(0, 2, 2)] }
def cl_l7Bench : List (Nat × Sig) := [(113, sg_l7Cut), (114, sg_l7One)]
theorem run_l7Bench : (fun H : List (Nat × List Sc) => run ⟨Tryz.prog, glb ++ H, cl_l7Bench⟩ [(0, ⟨[(6, .int .i64), (4, .sl)], [], some (1, .rowC [.int .u8, .fat .i64 1], 2, 93)⟩)] Tryz.f51 sg_l7Bench (Tryz.f51.body.getD .skip)) = fun _ => tr_l7Bench := by kernel_rfl
theorem om_l7Bench (lv : LibV) : ΩOK ⟨Tryz.prog, (glb ++ lib lv), cl_l7Bench⟩ Ss_l7Bench := (ΩOK_consS (con_l7Cut lv) Tryz.call113 (ΩOK_consS (con_l7One lv) Tryz.call114 ΩOK_nilS))
theorem con_l7Bench (lv : LibV) : ConOK Tryz.prog (glb ++ lib lv) 51 sg_l7Bench SP_l7Bench := conOK_of (om_l7Bench lv) mixed Tryz.func51 (by kernel_rfl) (congrFun run_l7Bench (lib lv)) (fun ins K ht h => sat_l7Bench Tryz.prog ins K ht h)
def sg_readPiece : Sig := { args := [.s (.e (.var 0))], pre := [], tin := [.str], gin := [], res := .tu [.ag [.e (.var 0), .e (.var 1), .e (.var 2)], .s (.e (.var 3))], post := [], tout := [.int .u8, .sl, .str, .bool, .row .i64 1], gout := [(1, 4, 1)] }
def cl_readPiece : List (Nat × Sig) := [(122, sg_Split), (164, sg_plainNumber), (101, sg_direction), (142, sg_within)]
theorem run_readPiece : (fun H : List (Nat × List Sc) => run ⟨Tryz.prog, glb ++ H, cl_readPiece⟩ [(0, ⟨[(25, .int .i64)], [(1, 1, .sl)], some (1, .row .i64 1, 1, 3)⟩)] Tryz.f123 sg_readPiece (Tryz.f123.body.getD .skip)) = fun _ => tr_readPiece := by kernel_rfl
theorem om_readPiece (lv : LibV) : ΩOK ⟨Tryz.prog, (glb ++ lib lv), cl_readPiece⟩ Ss_readPiece := (ΩOK_consS (con_Split lv) Tryz.call122 (ΩOK_consS (con_plainNumber lv) Tryz.call164 (ΩOK_consS (cong_direction lv) Tryz.call101 (ΩOK_consS (cong_within lv) Tryz.call142 ΩOK_nilS))))
theorem con_readPiece (lv : LibV) : ConOK Tryz.prog (glb ++ lib lv) 123 sg_readPiece SP_readPiece := conOK_of (om_readPiece lv) mixed Tryz.func123 (by kernel_rfl) (congrFun run_readPiece (lib lv)) (fun ins K ht h => sat_readPiece Tryz.prog ins K ht h)
def sg_readBench : Sig := { args := [.s (.e (.var 0))], pre := [], tin := [.str], gin := [], res := .tu [.s (.e (.var 0)), .s (.e (.var 1))], post := [], tout := [.sl, .bool, .rowC [.int .u8, .fat .i64 1, .str]], gout := [(0, 2, 3)], gown := some (0, 2, 3, 100) }
def cl_readBench : List (Nat × Sig) := [(122, sg_Split), (123, sg_readPiece)]
theorem run_readBench : (fun H : List (Nat × List Sc) => run ⟨Tryz.prog, glb ++ H, cl_readBench⟩ [(0, ⟨[(16, .int .i64), (4, .sl)], [], some (1, .rowC [.int .u8, .fat .i64 1, .str], 3, 100)⟩)] Tryz.f56 sg_readBench (Tryz.f56.body.getD .skip)) = fun _ => tr_readBench := by kernel_rfl
theorem om_readBench (lv : LibV) : ΩOK ⟨Tryz.prog, (glb ++ lib lv), cl_readBench⟩ Ss_readBench := (ΩOK_consS (con_Split lv) Tryz.call122 (ΩOK_consS (con_readPiece lv) Tryz.call123 ΩOK_nilS))
theorem con_readBench (lv : LibV) : ConOK Tryz.prog (glb ++ lib lv) 56 sg_readBench SP_readBench := conOK_of (om_readBench lv) mixed Tryz.func56 (by kernel_rfl) (congrFun run_readBench (lib lv)) (fun ins K ht h => sat_readBench Tryz.prog ins K ht h)
def sg_writeBench : Sig := { args := [.s (.e (.var 0))], pre := [], tin := [.sl, .rowC [.int .u8, .fat .i64 1, .str]], gin := [(0, 1, 3)], res := .c (.s (.e (.var 0))), post := [], tout := [.str], gout := [] }
def cl_writeBench : List (Nat × Sig) := [(151, sg_Join)]
theorem run_writeBench : (fun H : List (Nat × List Sc) => run ⟨Tryz.prog, glb ++ H, cl_writeBench⟩ [(0, ⟨[(9, .int .i64), (3, .sl)], [], some (1, .rowC [.str], 1, 9)⟩)] Tryz.f93 sg_writeBench (Tryz.f93.body.getD .skip)) = fun _ => tr_writeBench := by kernel_rfl
theorem om_writeBench (lv : LibV) : ΩOK ⟨Tryz.prog, (glb ++ lib lv), cl_writeBench⟩ Ss_writeBench := (ΩOK_consS (con_Join lv) Tryz.call151 ΩOK_nilS)
theorem con_writeBench (lv : LibV) : ConOK Tryz.prog (glb ++ lib lv) 93 sg_writeBench SP_writeBench := conOK_of (om_writeBench lv) mixed Tryz.func93 (by kernel_rfl) (congrFun run_writeBench (lib lv)) (fun ins K ht h => sat_writeBench Tryz.prog ins K ht h)
def sg_sBenchValid : Sig := { args := [.s (.e (.var 0))], pre := [], tin := [.str], gin := [], res := .c (.s (.e (.var 0))), post := [], tout := [.bool], gout := [] }
def cl_sBenchValid : List (Nat × Sig) := [(51, sg_l7Bench)]
theorem run_sBenchValid : (fun H : List (Nat × List Sc) => run ⟨Tryz.prog, glb ++ H, cl_sBenchValid⟩ [] Tryz.f94 sg_sBenchValid (Tryz.f94.body.getD .skip)) = fun _ => tr_sBenchValid := by kernel_rfl
theorem om_sBenchValid (lv : LibV) : ΩOK ⟨Tryz.prog, (glb ++ lib lv), cl_sBenchValid⟩ Ss_sBenchValid := (ΩOK_consS (con_l7Bench lv) Tryz.call51 ΩOK_nilS)
theorem con_sBenchValid (lv : LibV) : ConOK Tryz.prog (glb ++ lib lv) 94 sg_sBenchValid SP_sBenchValid := conOK_of (om_sBenchValid lv) mixed Tryz.func94 (by kernel_rfl) (congrFun run_sBenchValid (lib lv)) (fun ins K ht h => sat_sBenchValid Tryz.prog ins K ht h)
def sg_iBenchPieces : Sig := { args := [.s (.e (.var 0))], pre := [], tin := [.str], gin := [], res := .c (.s (.e (.var 0))), post := [], tout := [.int .i64], gout := [] }
def cl_iBenchPieces : List (Nat × Sig) := [(56, sg_readBench)]
theorem run_iBenchPieces : (fun H : List (Nat × List Sc) => run ⟨Tryz.prog, glb ++ H, cl_iBenchPieces⟩ [] Tryz.f35 sg_iBenchPieces (Tryz.f35.body.getD .skip)) = fun _ => tr_iBenchPieces := by kernel_rfl
theorem om_iBenchPieces (lv : LibV) : ΩOK ⟨Tryz.prog, (glb ++ lib lv), cl_iBenchPieces⟩ Ss_iBenchPieces := (ΩOK_consS (con_readBench lv) Tryz.call56 ΩOK_nilS)
theorem con_iBenchPieces (lv : LibV) : ConOK Tryz.prog (glb ++ lib lv) 35 sg_iBenchPieces SP_iBenchPieces := conOK_of (om_iBenchPieces lv) mixed Tryz.func35 (by kernel_rfl) (congrFun run_iBenchPieces (lib lv)) (fun ins K ht h => sat_iBenchPieces Tryz.prog ins K ht h)
def sg_iBenchJoin : Sig := { args := [.s (.e (.var 0)), .s (.e (.var 1))], pre := [], tin := [.str, .str], gin := [], res := .tu [.s (.e (.var 0)), .s (.e (.var 1))], post := [], tout := [.str, .bool], gout := [] }
def cl_iBenchJoin : List (Nat × Sig) := [(56, sg_readBench), (93, sg_writeBench)]
theorem run_iBenchJoin : (fun H : List (Nat × List Sc) => run ⟨Tryz.prog, glb ++ H, cl_iBenchJoin⟩ [] Tryz.f32 sg_iBenchJoin (Tryz.f32.body.getD .skip)) = fun _ => tr_iBenchJoin := by kernel_rfl
theorem om_iBenchJoin (lv : LibV) : ΩOK ⟨Tryz.prog, (glb ++ lib lv), cl_iBenchJoin⟩ Ss_iBenchJoin := (ΩOK_consS (con_readBench lv) Tryz.call56 (ΩOK_consS (con_writeBench lv) Tryz.call93 ΩOK_nilS))
theorem con_iBenchJoin (lv : LibV) : ConOK Tryz.prog (glb ++ lib lv) 32 sg_iBenchJoin SP_iBenchJoin := conOK_of (om_iBenchJoin lv) mixed Tryz.func32 (by kernel_rfl) (congrFun run_iBenchJoin (lib lv)) (fun ins K ht h => sat_iBenchJoin Tryz.prog ins K ht h)
def sg_sBenchJoin : Sig := { args := [.s (.e (.var 0)), .s (.e (.var 1))], pre := [], tin := [.str, .str], gin := [], res := .tu [.s (.e (.var 0)), .s (.e (.var 1))], post := [], tout := [.str, .bool], gout := [] }
def cl_sBenchJoin : List (Nat × Sig) := [(94, sg_sBenchValid)]
theorem run_sBenchJoin : (fun H : List (Nat × List Sc) => run ⟨Tryz.prog, glb ++ H, cl_sBenchJoin⟩ [] Tryz.f33 sg_sBenchJoin (Tryz.f33.body.getD .skip)) = fun _ => tr_sBenchJoin := by kernel_rfl
theorem om_sBenchJoin (lv : LibV) : ΩOK ⟨Tryz.prog, (glb ++ lib lv), cl_sBenchJoin⟩ Ss_sBenchJoin := (ΩOK_consS (con_sBenchValid lv) Tryz.call94 ΩOK_nilS)
theorem con_sBenchJoin (lv : LibV) : ConOK Tryz.prog (glb ++ lib lv) 33 sg_sBenchJoin SP_sBenchJoin := conOK_of (om_sBenchJoin lv) mixed Tryz.func33 (by kernel_rfl) (congrFun run_sBenchJoin (lib lv)) (fun ins K ht h => sat_sBenchJoin Tryz.prog ins K ht h)
def sg_iBenchTurned : Sig := { args := [.s (.e (.var 0)), .s (.e (.var 1)), .s (.e (.var 2))], pre := [], tin := [.str, .int .i64, .int .i64], gin := [], res := .tu [.s (.e (.var 0)), .s (.e (.var 1))], post := [], tout := [.str, .bool], gout := [] }
def cl_iBenchTurned : List (Nat × Sig) := [(101, sg_direction), (102, sg_Itoa), (32, sg_iBenchJoin)]
theorem run_iBenchTurned : (fun H : List (Nat × List Sc) => run ⟨Tryz.prog, glb ++ H, cl_iBenchTurned⟩ [] Tryz.f40 sg_iBenchTurned (Tryz.f40.body.getD .skip)) = fun _ => tr_iBenchTurned := by kernel_rfl
theorem om_iBenchTurned (lv : LibV) : ΩOK ⟨Tryz.prog, (glb ++ lib lv), cl_iBenchTurned⟩ Ss_iBenchTurned := (ΩOK_consS (cong_direction lv) Tryz.call101 (ΩOK_consS (con_Itoa lv) Tryz.call102 (ΩOK_consS (con_iBenchJoin lv) Tryz.call32 ΩOK_nilS)))
theorem con_iBenchTurned (lv : LibV) : ConOK Tryz.prog (glb ++ lib lv) 40 sg_iBenchTurned SP_iBenchTurned := conOK_of (om_iBenchTurned lv) mixed Tryz.func40 (by kernel_rfl) (congrFun run_iBenchTurned (lib lv)) (fun ins K ht h => sat_iBenchTurned Tryz.prog ins K ht h)
def sg_sBenchTurned : Sig := { args := [.s (.e (.var 0)), .s (.e (.var 1)), .s (.e (.var 2))], pre := [], tin := [.str, .int .i64, .int .i64], gin := [], res := .tu [.s (.e (.var 0)), .s (.e (.var 1))], post := [], tout := [.str, .bool], gout := [] }
def cl_sBenchTurned : List (Nat × Sig) := [(103, sg_l5Direction), (104, sg_l6Dec), (33, sg_sBenchJoin)]
theorem run_sBenchTurned : (fun H : List (Nat × List Sc) => run ⟨Tryz.prog, glb ++ H, cl_sBenchTurned⟩ [] Tryz.f41 sg_sBenchTurned (Tryz.f41.body.getD .skip)) = fun _ => tr_sBenchTurned := by kernel_rfl
theorem om_sBenchTurned (lv : LibV) : ΩOK ⟨Tryz.prog, (glb ++ lib lv), cl_sBenchTurned⟩ Ss_sBenchTurned := (ΩOK_consS (cong_l5Direction lv) Tryz.call103 (ΩOK_consS (con_l6Dec lv) Tryz.call104 (ΩOK_consS (con_sBenchJoin lv) Tryz.call33 ΩOK_nilS)))
theorem con_sBenchTurned (lv : LibV) : ConOK Tryz.prog (glb ++ lib lv) 41 sg_sBenchTurned SP_sBenchTurned := conOK_of (om_sBenchTurned lv) mixed Tryz.func41 (by kernel_rfl) (congrFun run_sBenchTurned (lib lv)) (fun ins K ht h => sat_sBenchTurned Tryz.prog ins K ht h)
def sg_ofG : Sig := { args := [.s (.p (.own 0) 0), .s (.e (.var 0))], pre := [⟨[.e (.var 1), .e (.var 2)], 162⟩], tin := [.sl, .sl, .int .i64, .rowC [.str]], gin := [(0, 3, 1)], res := .c (.s (.e (.var 0))), post := [⟨[.e (.var 1), .e (.var 2)], 162⟩], tout := [.str, .sl, .int .i64], gout := [] }
def cl_ofG : List (Nat × Sig) := [(105, sg_pickC)]
theorem run_ofG : (fun H : List (Nat × List Sc) => run ⟨Tryz.prog, glb ++ H, cl_ofG⟩ [] Tryz.f128 sg_ofG (Tryz.f128.body.getD .skip)) = fun _ => tr_ofG := by kernel_rfl
theorem om_ofG (lv : LibV) {cb : CodeB} (hk : CodeOk cb) (hG : Known cb (glb ++ lib lv ++ cb.tail)) : ΩOK ⟨Tryz.prog, glb ++ lib lv ++ cb.tail, cl_ofG⟩ (Ss_ofG cb) := (ΩOK_consS (con_pickC lv hk hG) Tryz.call105 ΩOK_nilS)
theorem con_ofG (lv : LibV) {cb : CodeB} (hk : CodeOk cb) (hG : Known cb (glb ++ lib lv ++ cb.tail)) : ConOK Tryz.prog (glb ++ lib lv ++ cb.tail) 128 sg_ofG (SP_ofG cb) := conOK_of (om_ofG lv hk hG) mixed Tryz.func128 (by kernel_rfl) (congrFun run_ofG (lib lv ++ cb.tail)) (fun ins K ht h => sat_ofG Tryz.prog cb hk ins K ht h)
def sg_ofC : Sig := { args := [.s (.p (.own 0) 0), .s (.sl (.own 1) 0 8 8)], pre := [⟨[.e (.var 0), .e (.var 1)], 162⟩, ⟨[.e (.var 2), .e (.var 3), .e (.var 4), .e (.var 5), .e (.var 6), .e (.var 7), .e (.var 8), .e (.var 9)], 9⟩], tin := [.sl, .int .i64, .str, .str, .str, .str, .str, .str, .str, .str], gin := [], res := .c (.s (.e (.var 0))), post := [⟨[.e (.var 1), .e (.var 2)], 162⟩, ⟨[.e (.var 3), .e (.var 4), .e (.var 5), .e (.var 6), .e (.var 7), .e (.var 8), .e (.var 9), .e (.var 10)], 9⟩], tout := [.str, .sl, .int .i64, .str, .str, .str, .str, .str, .str, .str, .str], gout := [] }
theorem con_ofC (lv : LibV) {cb : CodeB} (hk : CodeOk cb) (hG : Known cb (glb ++ lib lv ++ cb.tail)) : ConOK Tryz.prog (glb ++ lib lv ++ cb.tail) 128 sg_ofC (SP_ofC cb) := conOK_of8d (t := 162) (ts := 9) (con_ofG lv hk hG)
def sg_l92Piece : Sig := { args := [.s (.p (.own 0) 0), .s (.e (.var 0))], pre := [⟨[.e (.var 1), .e (.var 2)], 162⟩], tin := [.bool, .sl, .int .i64], gin := [], res := .c (.s (.e (.var 0))), post := [⟨[.e (.var 1), .e (.var 2)], 162⟩], tout := [.str, .sl, .int .i64], gout := [] }
def cl_l92Piece : List (Nat × Sig) := [(105, sg_pickC), (104, sg_l6Dec)]
theorem run_l92Piece : (fun H : List (Nat × List Sc) => run ⟨Tryz.prog, glb ++ H, cl_l92Piece⟩ [] Tryz.f127 sg_l92Piece (Tryz.f127.body.getD .skip)) = fun _ => tr_l92Piece := by kernel_rfl
theorem om_l92Piece (lv : LibV) {cb : CodeB} (hk : CodeOk cb) (hG : Known cb (glb ++ lib lv ++ cb.tail)) : ΩOK ⟨Tryz.prog, glb ++ lib lv ++ cb.tail, cl_l92Piece⟩ (Ss_l92Piece cb) := (ΩOK_consS (con_pickC lv hk hG) Tryz.call105 (ΩOK_consS (con_l6Dec lv).more Tryz.call104 ΩOK_nilS))
theorem con_l92Piece (lv : LibV) {cb : CodeB} (hk : CodeOk cb) (hG : Known cb (glb ++ lib lv ++ cb.tail)) : ConOK Tryz.prog (glb ++ lib lv ++ cb.tail) 127 sg_l92Piece (SP_l92Piece cb) := conOK_of (om_l92Piece lv hk hG) mixed Tryz.func127 (by kernel_rfl) (congrFun run_l92Piece (lib lv ++ cb.tail)) (fun ins K ht h => sat_l92Piece Tryz.prog cb hk ins K ht h)
def sg_l92Bench : Sig := { args := [.s (.p (.own 0) 0), .s (.e (.var 0))], pre := [⟨[.e (.var 1), .e (.var 2)], 162⟩], tin := [.bool, .sl, .int .i64], gin := [], res := .c (.s (.e (.var 0))), post := [⟨[.e (.var 1), .e (.var 2)], 162⟩], tout := [.str, .sl, .int .i64], gout := [] }
def cl_l92Bench : List (Nat × Sig) := [(105, sg_pickC), (127, sg_l92Piece), (128, sg_ofC)]
theorem run_l92Bench : (fun H : List (Nat × List Sc) => run ⟨Tryz.prog, glb ++ H, cl_l92Bench⟩ [(0, ⟨[(7, .int .i64), (5, .str)], [(0, 0, .sl), (0, 1, .int .i64)], none⟩)] Tryz.f61 sg_l92Bench (Tryz.f61.body.getD .skip)) = fun _ => tr_l92Bench := by kernel_rfl
theorem om_l92Bench (lv : LibV) {cb : CodeB} (hk : CodeOk cb) (hG : Known cb (glb ++ lib lv ++ cb.tail)) : ΩOK ⟨Tryz.prog, glb ++ lib lv ++ cb.tail, cl_l92Bench⟩ (Ss_l92Bench cb) := (ΩOK_consS (con_pickC lv hk hG) Tryz.call105 (ΩOK_consS (con_l92Piece lv hk hG) Tryz.call127 (ΩOK_consS (con_ofC lv hk hG) Tryz.call128 ΩOK_nilS)))
theorem con_l92Bench (lv : LibV) {cb : CodeB} (hk : CodeOk cb) (hG : Known cb (glb ++ lib lv ++ cb.tail)) : ConOK Tryz.prog (glb ++ lib lv ++ cb.tail) 61 sg_l92Bench (SP_l92Bench cb) := conOK_of (om_l92Bench lv hk hG) mixed Tryz.func61 (by kernel_rfl) (congrFun run_l92Bench (lib lv ++ cb.tail)) (fun ins K ht h => sat_l92Bench Tryz.prog cb hk ins K ht h)
def sg_opposite : Sig := { args := [.ag [.e (.var 0), .e (.var 1), .e (.var 2)]], pre := [], tin := [.int .i64, .int .i64, .int .i64], gin := [], res := .c (.ag [.e (.var 0), .e (.var 1), .e (.var 2)]), post := [], tout := [.int .i64, .int .i64, .int .i64], gout := [] }
def cl_opposite : List (Nat × Sig) := []
theorem run_opposite : (fun H : List (Nat × List Sc) => run ⟨Tryz.prog, glb ++ H, cl_opposite⟩ [] Tryz.f165 sg_opposite (Tryz.f165.body.getD .skip)) = fun _ => tr_opposite := by kernel_rfl
theorem om_opposite (lv : LibV) : ΩOK ⟨Tryz.prog, (glb ++ lib lv), cl_opposite⟩ (specsOf Fs_opposite) := ΩOK_nil
theorem con_opposite (lv : LibV) : ConOK Tryz.prog (glb ++ lib lv) 165 sg_opposite F_opposite.spec := conOK_tree (om_opposite lv) mixed Tryz.func165 (by kernel_rfl) (congrFun run_opposite (lib lv))
def sg_iMatRotator : Sig := { args := [.s (.e (.var 0)), .s (.e (.var 1))], pre := [], tin := [.int .i64, .int .i64], gin := [], res := .tu [.ag [.e (.var 0), .e (.var 1), .e (.var 2), .e (.var 3), .e (.var 4), .e (.var 5), .e (.var 6), .e (.var 7), .e (.var 8), .e (.var 9), .e (.var 10), .e (.var 11)], .s (.e (.var 12))], post := [], tout := [.int .i64, .int .i64, .int .i64, .int .i64, .int .i64, .int .i64, .int .i64, .int .i64, .int .i64, .int .i64, .int .i64, .int .i64, .bool], gout := [] }
def cl_iMatRotator : List (Nat × Sig) := [(101, sg_direction), (165, sg_opposite)]
theorem run_iMatRotator : (fun H : List (Nat × List Sc) => run ⟨Tryz.prog, glb ++ H, cl_iMatRotator⟩ [] Tryz.f130 sg_iMatRotator (Tryz.f130.body.getD .skip)) = fun _ => tr_iMatRotator := by kernel_rfl
theorem om_iMatRotator (lv : LibV) : ΩOK ⟨Tryz.prog, (glb ++ lib lv), cl_iMatRotator⟩ (specsOf Fs_iMatRotator) := (ΩOK_cons (cong_direction lv) Tryz.call101 (ΩOK_cons (con_opposite lv) Tryz.call165 ΩOK_nil))
theorem con_iMatRotator (lv : LibV) : ConOK Tryz.prog (glb ++ lib lv) 130 sg_iMatRotator F_iMatRotator.spec := conOK_tree (om_iMatRotator lv) mixed Tryz.func130 (by kernel_rfl) (congrFun run_iMatRotator (lib lv))
theorem cong_iMatRotator (lv : LibV) : ConOK Tryz.prog (glb ++ lib lv) 130 sg_iMatRotator G_iMatRotator.spec := (con_iMatRotator lv).as as_iMatRotator
def sg_iMatAdjoint : Sig := { args := [.ag [.e (.var 0), .e (.var 1), .e (.var 2), .e (.var 3), .e (.var 4), .e (.var 5), .e (.var 6), .e (.var 7), .e (.var 8), .e (.var 9), .e (.var 10), .e (.var 11)]], pre := [], tin := [.int .i64, .int .i64, .int .i64, .int .i64, .int .i64, .int .i64, .int .i64, .int .i64, .int .i64, .int .i64, .int .i64, .int .i64], gin := [], res := .tu [.ag [.e (.var 0), .e (.var 1), .e (.var 2), .e (.var 3), .e (.var 4), .e (.var 5), .e (.var 6), .e (.var 7), .e (.var 8), .e (.var 9), .e (.var 10), .e (.var 11)], .s (.e (.var 12))], post := [], tout := [.int .i64, .int .i64, .int .i64, .int .i64, .int .i64, .int .i64, .int .i64, .int .i64, .int .i64, .int .i64, .int .i64, .int .i64, .bool], gout := [] }
def cl_iMatAdjoint : List (Nat × Sig) := [(73, sg_mirror), (108, sg_gotMat)]
theorem run_iMatAdjoint : (fun H : List (Nat × List Sc) => run ⟨Tryz.prog, glb ++ H, cl_iMatAdjoint⟩ [] Tryz.f44 sg_iMatAdjoint (Tryz.f44.body.getD .skip)) = fun _ => tr_iMatAdjoint := by kernel_rfl
theorem om_iMatAdjoint (lv : LibV) : ΩOK ⟨Tryz.prog, (glb ++ lib lv), cl_iMatAdjoint⟩ (specsOf Fs_iMatAdjoint) := (ΩOK_cons (cong_mirror lv) Tryz.call73 (ΩOK_cons (cong_gotMat lv) Tryz.call108 ΩOK_nil))
theorem con_iMatAdjoint (lv : LibV) : ConOK Tryz.prog (glb ++ lib lv) 44 sg_iMatAdjoint F_iMatAdjoint.spec := conOK_tree (om_iMatAdjoint lv) mixed Tryz.func44 (by kernel_rfl) (congrFun run_iMatAdjoint (lib lv))
theorem cong_iMatAdjoint (lv : LibV) : ConOK Tryz.prog (glb ++ lib lv) 44 sg_iMatAdjoint G_iMatAdjoint.spec := (con_iMatAdjoint lv).as as_iMatAdjoint
def sg_iMatPlate : Sig := { args := [.s (.e (.var 0)), .s (.e (.var 1)), .s (.e (.var 2))], pre := [], tin := [.int .i64, .int .i64, .int .i64], gin := [], res := .tu [.ag [.e (.var 0), .e (.var 1), .e (.var 2), .e (.var 3), .e (.var 4), .e (.var 5), .e (.var 6), .e (.var 7), .e (.var 8), .e (.var 9), .e (.var 10), .e (.var 11)], .s (.e (.var 12))], post := [], tout := [.int .i64, .int .i64, .int .i64, .int .i64, .int .i64, .int .i64, .int .i64, .int .i64, .int .i64, .int .i64, .int .i64, .int .i64, .bool], gout := [] }
def cl_iMatPlate : List (Nat × Sig) := [(130, sg_iMatRotator), (142, sg_within), (45, sg_iMatTimes), (44, sg_iMatAdjoint)]
theorem run_iMatPlate : (fun H : List (Nat × List Sc) => run ⟨Tryz.prog, glb ++ H, cl_iMatPlate⟩ [] Tryz.f131 sg_iMatPlate (Tryz.f131.body.getD .skip)) = fun _ => tr_iMatPlate := by kernel_rfl
theorem om_iMatPlate (lv : LibV) : ΩOK ⟨Tryz.prog, (glb ++ lib lv), cl_iMatPlate⟩ (specsOf Fs_iMatPlate) := (ΩOK_cons (cong_iMatRotator lv) Tryz.call130 (ΩOK_cons (cong_within lv) Tryz.call142 (ΩOK_cons (cong_iMatTimes lv) Tryz.call45 (ΩOK_cons (cong_iMatAdjoint lv) Tryz.call44 ΩOK_nil))))
theorem con_iMatPlate (lv : LibV) : ConOK Tryz.prog (glb ++ lib lv) 131 sg_iMatPlate SP_iMatPlate := conOK_of (om_iMatPlate lv) mixed Tryz.func131 (by kernel_rfl) (congrFun run_iMatPlate (lib lv)) (fun ins K ht h => sat_iMatPlate Tryz.prog ins K ht h)
def sg_iMatFilter : Sig := { args := [.s (.e (.var 0)), .s (.e (.var 1))], pre := [], tin := [.int .i64, .int .i64], gin := [], res := .tu [.ag [.e (.var 0), .e (.var 1), .e (.var 2), .e (.var 3), .e (.var 4), .e (.var 5), .e (.var 6), .e (.var 7), .e (.var 8), .e (.var 9), .e (.var 10), .e (.var 11)], .s (.e (.var 12))], post := [], tout := [.int .i64, .int .i64, .int .i64, .int .i64, .int .i64, .int .i64, .int .i64, .int .i64, .int .i64, .int .i64, .int .i64, .int .i64, .bool], gout := [] }
def cl_iMatFilter : List (Nat × Sig) := [(101, sg_direction), (68, sg_need), (72, sg_times), (108, sg_gotMat)]
theorem run_iMatFilter : (fun H : List (Nat × List Sc) => run ⟨Tryz.prog, glb ++ H, cl_iMatFilter⟩ [] Tryz.f132 sg_iMatFilter (Tryz.f132.body.getD .skip)) = fun _ => tr_iMatFilter := by kernel_rfl
theorem om_iMatFilter (lv : LibV) : ΩOK ⟨Tryz.prog, (glb ++ lib lv), cl_iMatFilter⟩ (specsOf Fs_iMatFilter) := (ΩOK_cons (cong_direction lv) Tryz.call101 (ΩOK_cons (cong_need lv) Tryz.call68 (ΩOK_cons (cong_times lv) Tryz.call72 (ΩOK_cons (cong_gotMat lv) Tryz.call108 ΩOK_nil))))
theorem con_iMatFilter (lv : LibV) : ConOK Tryz.prog (glb ++ lib lv) 132 sg_iMatFilter F_iMatFilter.spec := conOK_tree (om_iMatFilter lv) mixed Tryz.func132 (by kernel_rfl) (congrFun run_iMatFilter (lib lv))
theorem cong_iMatFilter (lv : LibV) : ConOK Tryz.prog (glb ++ lib lv) 132 sg_iMatFilter G_iMatFilter.spec := (con_iMatFilter lv).as as_iMatFilter
def sg_share : Sig := { args := [.ag [.e (.var 0), .e (.var 1), .e (.var 2)]], pre := [], tin := [.int .u8, .sl, .str, .row .i64 1], gin := [(1, 3, 1)], res := .c (.ag [.e (.var 0), .e (.var 1), .e (.var 2)]), post := [], tout := [.int .i64, .int .i64, .int .i64], gout := [] }
def cl_share : List (Nat × Sig) := [(87, sg_lowest)]
theorem run_share : (fun H : List (Nat × List Sc) => run ⟨Tryz.prog, glb ++ H, cl_share⟩ [] Tryz.f125 sg_share (Tryz.f125.body.getD .skip)) = fun _ => tr_share := by kernel_rfl
theorem om_share (lv : LibV) : ΩOK ⟨Tryz.prog, (glb ++ lib lv), cl_share⟩ (specsOf Fs_share) := (ΩOK_cons (cong_lowest lv) Tryz.call87 ΩOK_nil)
theorem con_share (lv : LibV) : ConOK Tryz.prog (glb ++ lib lv) 125 sg_share SP_share := conOK_of (om_share lv) mixed Tryz.func125 (by kernel_rfl) (congrFun run_share (lib lv)) (fun ins K ht h => sat_share Tryz.prog ins K ht h)
def sg_mat : Sig := { args := [.ag [.e (.var 0), .e (.var 1), .e (.var 2)]], pre := [], tin := [.int .u8, .sl, .str, .row .i64 1], gin := [(1, 3, 1)], res := .tu [.ag [.e (.var 0), .e (.var 1), .e (.var 2), .e (.var 3), .e (.var 4), .e (.var 5), .e (.var 6), .e (.var 7), .e (.var 8), .e (.var 9), .e (.var 10), .e (.var 11)], .s (.e (.var 12))], post := [], tout := [.int .i64, .int .i64, .int .i64, .int .i64, .int .i64, .int .i64, .int .i64, .int .i64, .int .i64, .int .i64, .int .i64, .int .i64, .bool], gout := [] }
def cl_mat : List (Nat × Sig) := [(130, sg_iMatRotator), (131, sg_iMatPlate), (132, sg_iMatFilter), (125, sg_share)]
theorem run_mat : (fun H : List (Nat × List Sc) => run ⟨Tryz.prog, glb ++ H, cl_mat⟩ [] Tryz.f67 sg_mat (Tryz.f67.body.getD .skip)) = fun _ => tr_mat := by kernel_rfl
theorem om_mat (lv : LibV) : ΩOK ⟨Tryz.prog, (glb ++ lib lv), cl_mat⟩ Ss_mat := (ΩOK_consS (cong_iMatRotator lv) Tryz.call130 (ΩOK_consS (con_iMatPlate lv) Tryz.call131 (ΩOK_consS (cong_iMatFilter lv) Tryz.call132 (ΩOK_consS (con_share lv) Tryz.call125 ΩOK_nilS))))
theorem con_mat (lv : LibV) : ConOK Tryz.prog (glb ++ lib lv) 67 sg_mat SP_mat := conOK_of (om_mat lv) mixed Tryz.func67 (by kernel_rfl) (congrFun run_mat (lib lv)) (fun ins K ht h => sat_mat Tryz.prog ins K ht h)
def sg_iBenchMat : Sig := { args := [.s (.e (.var 0))], pre := [], tin := [.str], gin := [], res := .tu [.ag [.e (.var 0), .e (.var 1), .e (.var 2), .e (.var 3), .e (.var 4), .e (.var 5), .e (.var 6), .e (.var 7), .e (.var 8), .e (.var 9), .e (.var 10), .e (.var 11)], .s (.e (.var 12))], post := [], tout := [.int .i64, .int .i64, .int .i64, .int .i64, .int .i64, .int .i64, .int .i64, .int .i64, .int .i64, .int .i64, .int .i64, .int .i64, .bool], gout := [] }
def cl_iBenchMat : List (Nat × Sig) := [(56, sg_readBench), (67, sg_mat), (45, sg_iMatTimes)]
theorem run_iBenchMat : (fun H : List (Nat × List Sc) => run ⟨Tryz.prog, glb ++ H, cl_iBenchMat⟩ [(0, ⟨[(21, .int .i64), (5, .bool)], [(1, 0, .int .i64), (1, 1, .int .i64), (1, 2, .int .i64), (1, 3, .int .i64), (1, 4, .int .i64), (1, 5, .int .i64), (1, 6, .int .i64), (1, 7, .int .i64), (1, 8, .int .i64), (1, 9, .int .i64), (1, 10, .int .i64), (1, 11, .int .i64)], none⟩)] Tryz.f20 sg_iBenchMat (Tryz.f20.body.getD .skip)) = fun _ => tr_iBenchMat := by kernel_rfl
theorem om_iBenchMat (lv : LibV) : ΩOK ⟨Tryz.prog, (glb ++ lib lv), cl_iBenchMat⟩ Ss_iBenchMat := (ΩOK_consS (con_readBench lv) Tryz.call56 (ΩOK_consS (con_mat lv) Tryz.call67 (ΩOK_consS (cong_iMatTimes lv) Tryz.call45 ΩOK_nilS)))
theorem con_iBenchMat (lv : LibV) : ConOK Tryz.prog (glb ++ lib lv) 20 sg_iBenchMat SP_iBenchMat := conOK_of (om_iBenchMat lv) mixed Tryz.func20 (by kernel_rfl) (congrFun run_iBenchMat (lib lv)) (fun ins K ht h => sat_iBenchMat Tryz.prog ins K ht h)
def sg_DrawBenchTurned : Sig := { args := [.s (.e (.var 0))], pre := [], tin := [.sl], gin := [], res := .tu [.s (.e (.var 0)), .s (.e (.var 1)), .s (.e (.var 2))], post := [], tout := [.str, .int .i64, .int .i64], gout := [] }
def cl_DrawBenchTurned : List (Nat × Sig) := [(62, sg_openC), (61, sg_l92Bench), (100, sg_l91Direction)]
theorem run_DrawBenchTurned : (fun H : List (Nat × List Sc) => run ⟨Tryz.prog, glb ++ H, cl_DrawBenchTurned⟩ [] Tryz.f39 sg_DrawBenchTurned (Tryz.f39.body.getD .skip)) = fun _ => tr_DrawBenchTurned := by kernel_rfl
theorem om_DrawBenchTurned (lv : LibV) {cb : CodeB} (hk : CodeOk cb) (hG : Known cb (glb ++ lib lv ++ cb.tail)) : ΩOK ⟨Tryz.prog, glb ++ lib lv ++ cb.tail, cl_DrawBenchTurned⟩ (Ss_DrawBenchTurned cb) := (ΩOK_consS (con_openC lv hk hG) Tryz.call62 (ΩOK_consS (con_l92Bench lv hk hG) Tryz.call61 (ΩOK_consS (con_l91Direction lv hk hG) Tryz.call100 ΩOK_nilS)))
theorem con_DrawBenchTurned (lv : LibV) {cb : CodeB} (hk : CodeOk cb) (hG : Known cb (glb ++ lib lv ++ cb.tail)) : ConOK Tryz.prog (glb ++ lib lv ++ cb.tail) 39 sg_DrawBenchTurned (SP_DrawBenchTurned cb) := conOK_of (om_DrawBenchTurned lv hk hG) mixed Tryz.func39 (by kernel_rfl) (congrFun run_DrawBenchTurned (lib lv ++ cb.tail)) (fun ins K ht h => sat_DrawBenchTurned Tryz.prog cb hk ins K ht h)
def sg_FnBenchTurned : Sig := { args := [.s (.e (.var 0))], pre := [], tin := [.sl], gin := [], res := .c (.s (.e (.var 0))), post := [], tout := [.bool], gout := [] }
def cl_FnBenchTurned : List (Nat × Sig) := [(39, sg_DrawBenchTurned), (40, sg_iBenchTurned), (41, sg_sBenchTurned), (20, sg_iBenchMat), (35, sg_iBenchPieces)]
theorem run_FnBenchTurned : (fun H : List (Nat × List Sc) => run ⟨Tryz.prog, glb ++ H, cl_FnBenchTurned⟩ [] Tryz.f9 sg_FnBenchTurned (Tryz.f9.body.getD .skip)) = fun _ => tr_FnBenchTurned := by kernel_rfl
theorem om_FnBenchTurned (lv : LibV) {cb : CodeB} (hk : CodeOk cb) (hG : Known cb (glb ++ lib lv ++ cb.tail)) : ΩOK ⟨Tryz.prog, glb ++ lib lv ++ cb.tail, cl_FnBenchTurned⟩ (Ss_FnBenchTurned cb) := (ΩOK_consS (con_DrawBenchTurned lv hk hG).tys Tryz.call39 (ΩOK_consS (con_iBenchTurned lv).more Tryz.call40 (ΩOK_consS (con_sBenchTurned lv).more Tryz.call41 (ΩOK_consS (con_iBenchMat lv).more Tryz.call20 (ΩOK_consS (con_iBenchPieces lv).more Tryz.call35 ΩOK_nilS)))))
theorem con_FnBenchTurned (lv : LibV) {cb : CodeB} (hk : CodeOk cb) (hG : Known cb (glb ++ lib lv ++ cb.tail)) : ConOK Tryz.prog (glb ++ lib lv ++ cb.tail) 9 sg_FnBenchTurned (lawF cb).spec := conOK_of (om_FnBenchTurned lv hk hG) mixed Tryz.func9 (by kernel_rfl) (congrFun run_FnBenchTurned (lib lv ++ cb.tail)) (fun ins K ht h => sat_FnBenchTurned Tryz.prog cb hk ins K ht h.1 h.2)
end Go.Proofs.YtidldoahiddpgaaGreatDoor

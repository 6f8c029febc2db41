import Derived.Test.YtidldoahiddpgaaGreatDoorChecked
import Derived.Test.YtidldoahiddpgaaGreatDoorRkBFnBenchMat
import Derived.WalkKit
import Derived.Laws.OwnMore
import Derived.Deep.MidRow
import Derived.Test.YtidldoahiddpgaaGreatDoorShelf
import Derived.Laws.BytesArg
import Derived.Lib.ItoaLen
import Derived.Deep.DrawnRows
namespace Go.Proofs.YtidldoahiddpgaaGreatDoor
open Go Go.Sx Go.RowKit
set_option maxRecDepth 100000
attribute [local go_sem ↓] Go.wp_at_zero Go.wp_at_succ
def lib (lv : LibV) : List (Nat × List Sc) := lv.tail 5 8 9
def glb : List (Nat × List Sc) := [(2, [.e (.int .i64 (0)), .e (.int .i64 (0)), .e (.int .i64 (1))]), (0, [.e (.int .i64 (1)), .e (.int .i64 (0)), .e (.int .i64 (1))]), (1, [.e (.int .i64 (1)), .e (.int .i64 (0)), .e (.int .i64 (1)), .e (.int .i64 (0)), .e (.int .i64 (0)), .e (.int .i64 (1)), .e (.int .i64 (0)), .e (.int .i64 (0)), .e (.int .i64 (1)), .e (.int .i64 (1)), .e (.int .i64 (0)), .e (.int .i64 (1))]), (3, [.e (.int .i64 (1)), .e (.int .i64 (0)), .e (.int .i64 (1)), .e (.int .i64 (0)), .e (.int .i64 (1)), .e (.int .i64 (1)), .e (.int .i64 (-1)), .e (.int .i64 (0)), .e (.int .i64 (1)), .e (.int .i64 (0)), .e (.int .i64 (-1)), .e (.int .i64 (1))]), (4, Lib.pow10Tab.map fun z => Sc.e (.int .u64 z))]
theorem mixed : Tryz.prog.follows .mixedOrders = true := by kernel_rfl
def sg_size : Sig := { args := [.s (.e (.var 0))], pre := [], tin := [.int .i64], gin := [], res := .c (.s (.e (.var 0))), post := [], tout := [.int .i64], gout := [] }
def cl_size : List (Nat × Sig) := []
theorem run_size : (fun H : List (Nat × List Sc) => run ⟨Tryz.prog, glb ++ H, cl_size⟩ [] Tryz.f144 sg_size (Tryz.f144.body.getD .skip)) = fun _ => tr_size := by kernel_rfl
theorem om_size (lv : LibV) : ΩOK ⟨Tryz.prog, (glb ++ lib lv), cl_size⟩ (specsOf Fs_size) := ΩOK_nil
theorem con_size (lv : LibV) : ConOK Tryz.prog (glb ++ lib lv) 144 sg_size F_size.spec := conOK_tree (om_size lv) mixed Tryz.func144 (by kernel_rfl) (congrFun run_size (lib lv))
def sg_within : Sig := { args := [.s (.e (.var 0)), .s (.e (.var 1)), .s (.e (.var 2))], pre := [], tin := [.int .i64, .int .i64, .int .i64], gin := [], res := .c (.s (.e (.var 0))), post := [], tout := [.bool], gout := [] }
def cl_within : List (Nat × Sig) := []
theorem run_within : (fun H : List (Nat × List Sc) => run ⟨Tryz.prog, glb ++ H, cl_within⟩ [] Tryz.f142 sg_within (Tryz.f142.body.getD .skip)) = fun _ => tr_within := by kernel_rfl
theorem om_within (lv : LibV) : ΩOK ⟨Tryz.prog, (glb ++ lib lv), cl_within⟩ (specsOf Fs_within) := ΩOK_nil
theorem con_within (lv : LibV) : ConOK Tryz.prog (glb ++ lib lv) 142 sg_within F_within.spec := conOK_tree (om_within lv) mixed Tryz.func142 (by kernel_rfl) (congrFun run_within (lib lv))
theorem cong_within (lv : LibV) : ConOK Tryz.prog (glb ++ lib lv) 142 sg_within G_within.spec := (con_within lv).as as_within
def sg_l6In : Sig := { args := [.s (.e (.var 0)), .s (.e (.var 1)), .s (.e (.var 2))], pre := [], tin := [.int .i64, .int .i64, .int .i64], gin := [], res := .c (.s (.e (.var 0))), post := [], tout := [.bool], gout := [] }
def cl_l6In : List (Nat × Sig) := []
theorem run_l6In : (fun H : List (Nat × List Sc) => run ⟨Tryz.prog, glb ++ H, cl_l6In⟩ [] Tryz.f153 sg_l6In (Tryz.f153.body.getD .skip)) = fun _ => tr_l6In := by kernel_rfl
theorem om_l6In (lv : LibV) : ΩOK ⟨Tryz.prog, (glb ++ lib lv), cl_l6In⟩ (specsOf Fs_l6In) := ΩOK_nil
theorem con_l6In (lv : LibV) : ConOK Tryz.prog (glb ++ lib lv) 153 sg_l6In F_l6In.spec := conOK_tree (om_l6In lv) mixed Tryz.func153 (by kernel_rfl) (congrFun run_l6In (lib lv))
theorem cong_l6In (lv : LibV) : ConOK Tryz.prog (glb ++ lib lv) 153 sg_l6In G_l6In.spec := (con_l6In lv).as as_l6In
def sg_l2In : Sig := { args := [.s (.e (.var 0))], pre := [], tin := [.int .i64], gin := [], res := .c (.s (.e (.var 0))), post := [], tout := [.bool], gout := [] }
def cl_l2In : List (Nat × Sig) := [(153, sg_l6In)]
theorem run_l2In : (fun H : List (Nat × List Sc) => run ⟨Tryz.prog, glb ++ H, cl_l2In⟩ [] Tryz.f157 sg_l2In (Tryz.f157.body.getD .skip)) = fun _ => tr_l2In := by kernel_rfl
theorem om_l2In (lv : LibV) : ΩOK ⟨Tryz.prog, (glb ++ lib lv), cl_l2In⟩ (specsOf Fs_l2In) := (ΩOK_cons (cong_l6In lv) Tryz.call153 ΩOK_nil)
theorem con_l2In (lv : LibV) : ConOK Tryz.prog (glb ++ lib lv) 157 sg_l2In F_l2In.spec := conOK_tree (om_l2In lv) mixed Tryz.func157 (by kernel_rfl) (congrFun run_l2In (lib lv))
theorem cong_l2In (lv : LibV) : ConOK Tryz.prog (glb ++ lib lv) 157 sg_l2In G_l2In.spec := (con_l2In lv).as as_l2In
def sg_divisor : Sig := { args := [.s (.e (.var 0)), .s (.e (.var 1))], pre := [], tin := [.int .i64, .int .i64], gin := [], res := .c (.s (.e (.var 0))), post := [], tout := [.int .i64], gout := [] }
def cl_divisor : List (Nat × Sig) := []
theorem run_divisor : (fun H : List (Nat × List Sc) => run ⟨Tryz.prog, glb ++ H, cl_divisor⟩ [(0, ⟨[(0, .int .i64), (1, .int .i64)], [], none⟩)] Tryz.f143 sg_divisor (Tryz.f143.body.getD .skip)) = fun _ => tr_divisor := by kernel_rfl
theorem om_divisor (lv : LibV) : ΩOK ⟨Tryz.prog, (glb ++ lib lv), cl_divisor⟩ (specsOf Fs_divisor) := ΩOK_nil
theorem con_divisor (lv : LibV) : ConOK Tryz.prog (glb ++ lib lv) 143 sg_divisor F_divisor.spec := conOK_of (om_divisor lv) mixed Tryz.func143 (by kernel_rfl) (congrFun run_divisor (lib lv)) (fun ins K ht h => sat_divisor Tryz.prog ins K ht h.1 h.2)
def sg_l2Gcd : Sig := { args := [.s (.e (.var 0)), .s (.e (.var 1))], pre := [], tin := [.int .i64, .int .i64], gin := [], res := .c (.s (.e (.var 0))), post := [], tout := [.int .i64], gout := [] }
def cl_l2Gcd : List (Nat × Sig) := []
theorem run_l2Gcd : (fun H : List (Nat × List Sc) => run ⟨Tryz.prog, glb ++ H, cl_l2Gcd⟩ [(0, ⟨[(0, .int .i64), (1, .int .i64)], [], none⟩)] Tryz.f158 sg_l2Gcd (Tryz.f158.body.getD .skip)) = fun _ => tr_l2Gcd := by kernel_rfl
theorem om_l2Gcd (lv : LibV) : ΩOK ⟨Tryz.prog, (glb ++ lib lv), cl_l2Gcd⟩ (specsOf Fs_l2Gcd) := ΩOK_nil
theorem con_l2Gcd (lv : LibV) : ConOK Tryz.prog (glb ++ lib lv) 158 sg_l2Gcd F_l2Gcd.spec := conOK_of (om_l2Gcd lv) mixed Tryz.func158 (by kernel_rfl) (congrFun run_l2Gcd (lib lv)) (fun ins K ht h => sat_l2Gcd Tryz.prog ins K ht h.1 h.2)
def sg_lowest : Sig := { args := [.s (.e (.var 0)), .s (.e (.var 1)), .s (.e (.var 2))], pre := [], tin := [.int .i64, .int .i64, .int .i64], gin := [], res := .tu [.ag [.e (.var 0), .e (.var 1), .e (.var 2)], .s (.e (.var 3))], post := [], tout := [.int .i64, .int .i64, .int .i64, .bool], gout := [] }
def cl_lowest : List (Nat × Sig) := [(144, sg_size), (143, sg_divisor), (142, sg_within)]
theorem run_lowest : (fun H : List (Nat × List Sc) => run ⟨Tryz.prog, glb ++ H, cl_lowest⟩ [] Tryz.f87 sg_lowest (Tryz.f87.body.getD .skip)) = fun _ => tr_lowest := by kernel_rfl
theorem om_lowest (lv : LibV) : ΩOK ⟨Tryz.prog, (glb ++ lib lv), cl_lowest⟩ (specsOf Fs_lowest) := (ΩOK_cons (con_size lv) Tryz.call144 (ΩOK_cons (con_divisor lv) Tryz.call143 (ΩOK_cons (cong_within lv) Tryz.call142 ΩOK_nil)))
theorem con_lowest (lv : LibV) : ConOK Tryz.prog (glb ++ lib lv) 87 sg_lowest F_lowest.spec := conOK_tree (om_lowest lv) mixed Tryz.func87 (by kernel_rfl) (congrFun run_lowest (lib lv))
theorem cong_lowest (lv : LibV) : ConOK Tryz.prog (glb ++ lib lv) 87 sg_lowest G_lowest.spec := (con_lowest lv).as as_lowest
def sg_sFracValid : Sig := { args := [.ag [.e (.var 0), .e (.var 1), .e (.var 2)]], pre := [], tin := [.int .i64, .int .i64, .int .i64], gin := [], res := .c (.s (.e (.var 0))), post := [], tout := [.bool], gout := [] }
def cl_sFracValid : List (Nat × Sig) := [(157, sg_l2In), (153, sg_l6In), (158, sg_l2Gcd)]
theorem run_sFracValid : (fun H : List (Nat × List Sc) => run ⟨Tryz.prog, glb ++ H, cl_sFracValid⟩ [] Tryz.f115 sg_sFracValid (Tryz.f115.body.getD .skip)) = fun _ => tr_sFracValid := by kernel_rfl
theorem om_sFracValid (lv : LibV) : ΩOK ⟨Tryz.prog, (glb ++ lib lv), cl_sFracValid⟩ (specsOf Fs_sFracValid) := (ΩOK_cons (cong_l2In lv) Tryz.call157 (ΩOK_cons (cong_l6In lv) Tryz.call153 (ΩOK_cons (con_l2Gcd lv) Tryz.call158 ΩOK_nil)))
theorem con_sFracValid (lv : LibV) : ConOK Tryz.prog (glb ++ lib lv) 115 sg_sFracValid F_sFracValid.spec := conOK_tree (om_sFracValid lv) mixed Tryz.func115 (by kernel_rfl) (congrFun run_sFracValid (lib lv))
theorem cong_sFracValid (lv : LibV) : ConOK Tryz.prog (glb ++ lib lv) 115 sg_sFracValid G_sFracValid.spec := (con_sFracValid lv).as as_sFracValid
def sg_l2Low : Sig := { args := [.s (.e (.var 0)), .s (.e (.var 1)), .s (.e (.var 2))], pre := [], tin := [.int .i64, .int .i64, .int .i64], gin := [], res := .tu [.ag [.e (.var 0), .e (.var 1), .e (.var 2)], .s (.e (.var 3))], post := [], tout := [.int .i64, .int .i64, .int .i64, .bool], gout := [] }
def cl_l2Low : List (Nat × Sig) := [(158, sg_l2Gcd), (115, sg_sFracValid)]
theorem run_l2Low : (fun H : List (Nat × List Sc) => run ⟨Tryz.prog, glb ++ H, cl_l2Low⟩ [] Tryz.f171 sg_l2Low (Tryz.f171.body.getD .skip)) = fun _ => tr_l2Low := by kernel_rfl
theorem om_l2Low (lv : LibV) : ΩOK ⟨Tryz.prog, (glb ++ lib lv), cl_l2Low⟩ (specsOf Fs_l2Low) := (ΩOK_cons (con_l2Gcd lv) Tryz.call158 (ΩOK_cons (cong_sFracValid lv) Tryz.call115 ΩOK_nil))
theorem con_l2Low (lv : LibV) : ConOK Tryz.prog (glb ++ lib lv) 171 sg_l2Low F_l2Low.spec := conOK_tree (om_l2Low lv) mixed Tryz.func171 (by kernel_rfl) (congrFun run_l2Low (lib lv))
theorem cong_l2Low (lv : LibV) : ConOK Tryz.prog (glb ++ lib lv) 171 sg_l2Low G_l2Low.spec := (con_l2Low lv).as as_l2Low
def sg_sFracMake : Sig := { args := [.s (.e (.var 0)), .s (.e (.var 1)), .s (.e (.var 2))], pre := [], tin := [.int .i64, .int .i64, .int .i64], gin := [], res := .tu [.ag [.e (.var 0), .e (.var 1), .e (.var 2)], .s (.e (.var 3))], post := [], tout := [.int .i64, .int .i64, .int .i64, .bool], gout := [] }
def cl_sFracMake : List (Nat × Sig) := [(153, sg_l6In), (171, sg_l2Low)]
theorem run_sFracMake : (fun H : List (Nat × List Sc) => run ⟨Tryz.prog, glb ++ H, cl_sFracMake⟩ [] Tryz.f154 sg_sFracMake (Tryz.f154.body.getD .skip)) = fun _ => tr_sFracMake := by kernel_rfl
theorem om_sFracMake (lv : LibV) : ΩOK ⟨Tryz.prog, (glb ++ lib lv), cl_sFracMake⟩ (specsOf Fs_sFracMake) := (ΩOK_cons (cong_l6In lv) Tryz.call153 (ΩOK_cons (cong_l2Low lv) Tryz.call171 ΩOK_nil))
theorem con_sFracMake (lv : LibV) : ConOK Tryz.prog (glb ++ lib lv) 154 sg_sFracMake F_sFracMake.spec := conOK_tree (om_sFracMake lv) mixed Tryz.func154 (by kernel_rfl) (congrFun run_sFracMake (lib lv))
theorem cong_sFracMake (lv : LibV) : ConOK Tryz.prog (glb ++ lib lv) 154 sg_sFracMake G_sFracMake.spec := (con_sFracMake lv).as as_sFracMake
def sg_direction : Sig := { args := [.s (.e (.var 0)), .s (.e (.var 1))], pre := [], tin := [.int .i64, .int .i64], gin := [], res := .tu [.ag [.e (.var 0), .e (.var 1), .e (.var 2)], .ag [.e (.var 3), .e (.var 4), .e (.var 5)], .s (.e (.var 6))], post := [], tout := [.int .i64, .int .i64, .int .i64, .int .i64, .int .i64, .int .i64, .bool], gout := [] }
def cl_direction : List (Nat × Sig) := [(142, sg_within), (87, sg_lowest)]
theorem run_direction : (fun H : List (Nat × List Sc) => run ⟨Tryz.prog, glb ++ H, cl_direction⟩ [] Tryz.f101 sg_direction (Tryz.f101.body.getD .skip)) = fun _ => tr_direction := by kernel_rfl
theorem om_direction (lv : LibV) : ΩOK ⟨Tryz.prog, (glb ++ lib lv), cl_direction⟩ (specsOf Fs_direction) := (ΩOK_cons (cong_within lv) Tryz.call142 (ΩOK_cons (cong_lowest lv) Tryz.call87 ΩOK_nil))
theorem con_direction (lv : LibV) : ConOK Tryz.prog (glb ++ lib lv) 101 sg_direction F_direction.spec := conOK_tree (om_direction lv) mixed Tryz.func101 (by kernel_rfl) (congrFun run_direction (lib lv))
theorem cong_direction (lv : LibV) : ConOK Tryz.prog (glb ++ lib lv) 101 sg_direction G_direction.spec := (con_direction lv).as as_direction
def sg_l5Direction : Sig := { args := [.s (.e (.var 0)), .s (.e (.var 1))], pre := [], tin := [.int .i64, .int .i64], gin := [], res := .tu [.ag [.e (.var 0), .e (.var 1), .e (.var 2)], .ag [.e (.var 3), .e (.var 4), .e (.var 5)], .s (.e (.var 6))], post := [], tout := [.int .i64, .int .i64, .int .i64, .int .i64, .int .i64, .int .i64, .bool], gout := [] }
def cl_l5Direction : List (Nat × Sig) := [(153, sg_l6In), (154, sg_sFracMake)]
theorem run_l5Direction : (fun H : List (Nat × List Sc) => run ⟨Tryz.prog, glb ++ H, cl_l5Direction⟩ [] Tryz.f103 sg_l5Direction (Tryz.f103.body.getD .skip)) = fun _ => tr_l5Direction := by kernel_rfl
theorem om_l5Direction (lv : LibV) : ΩOK ⟨Tryz.prog, (glb ++ lib lv), cl_l5Direction⟩ (specsOf Fs_l5Direction) := (ΩOK_cons (cong_l6In lv) Tryz.call153 (ΩOK_cons (cong_sFracMake lv) Tryz.call154 ΩOK_nil))
theorem con_l5Direction (lv : LibV) : ConOK Tryz.prog (glb ++ lib lv) 103 sg_l5Direction F_l5Direction.spec := conOK_tree (om_l5Direction lv) mixed Tryz.func103 (by kernel_rfl) (congrFun run_l5Direction (lib lv))
theorem cong_l5Direction (lv : LibV) : ConOK Tryz.prog (glb ++ lib lv) 103 sg_l5Direction G_l5Direction.spec := (con_l5Direction lv).as as_l5Direction
def sg_iFracValid : Sig := { args := [.ag [.e (.var 0), .e (.var 1), .e (.var 2)]], pre := [], tin := [.int .i64, .int .i64, .int .i64], gin := [], res := .c (.s (.e (.var 0))), post := [], tout := [.bool], gout := [] }
def cl_iFracValid : List (Nat × Sig) := [(142, sg_within), (143, sg_divisor), (144, sg_size)]
theorem run_iFracValid : (fun H : List (Nat × List Sc) => run ⟨Tryz.prog, glb ++ H, cl_iFracValid⟩ [] Tryz.f86 sg_iFracValid (Tryz.f86.body.getD .skip)) = fun _ => tr_iFracValid := by kernel_rfl
theorem om_iFracValid (lv : LibV) : ΩOK ⟨Tryz.prog, (glb ++ lib lv), cl_iFracValid⟩ (specsOf Fs_iFracValid) := (ΩOK_cons (cong_within lv) Tryz.call142 (ΩOK_cons (con_divisor lv) Tryz.call143 (ΩOK_cons (con_size lv) Tryz.call144 ΩOK_nil)))
theorem con_iFracValid (lv : LibV) : ConOK Tryz.prog (glb ++ lib lv) 86 sg_iFracValid F_iFracValid.spec := conOK_tree (om_iFracValid lv) mixed Tryz.func86 (by kernel_rfl) (congrFun run_iFracValid (lib lv))
theorem cong_iFracValid (lv : LibV) : ConOK Tryz.prog (glb ++ lib lv) 86 sg_iFracValid G_iFracValid.spec := (con_iFracValid lv).as as_iFracValid
def sg_iFracAdd : Sig := { args := [.ag [.e (.var 0), .e (.var 1), .e (.var 2)], .ag [.e (.var 3), .e (.var 4), .e (.var 5)]], pre := [], tin := [.int .i64, .int .i64, .int .i64, .int .i64, .int .i64, .int .i64], gin := [], res := .tu [.ag [.e (.var 0), .e (.var 1), .e (.var 2)], .s (.e (.var 3))], post := [], tout := [.int .i64, .int .i64, .int .i64, .bool], gout := [] }
def cl_iFracAdd : List (Nat × Sig) := [(86, sg_iFracValid), (87, sg_lowest)]
theorem run_iFracAdd : (fun H : List (Nat × List Sc) => run ⟨Tryz.prog, glb ++ H, cl_iFracAdd⟩ [] Tryz.f137 sg_iFracAdd (Tryz.f137.body.getD .skip)) = fun _ => tr_iFracAdd := by kernel_rfl
theorem om_iFracAdd (lv : LibV) : ΩOK ⟨Tryz.prog, (glb ++ lib lv), cl_iFracAdd⟩ (specsOf Fs_iFracAdd) := (ΩOK_cons (cong_iFracValid lv) Tryz.call86 (ΩOK_cons (cong_lowest lv) Tryz.call87 ΩOK_nil))
theorem con_iFracAdd (lv : LibV) : ConOK Tryz.prog (glb ++ lib lv) 137 sg_iFracAdd F_iFracAdd.spec := conOK_tree (om_iFracAdd lv) mixed Tryz.func137 (by kernel_rfl) (congrFun run_iFracAdd (lib lv))
theorem cong_iFracAdd (lv : LibV) : ConOK Tryz.prog (glb ++ lib lv) 137 sg_iFracAdd G_iFracAdd.spec := (con_iFracAdd lv).as as_iFracAdd
def sg_iFracTimes : Sig := { args := [.ag [.e (.var 0), .e (.var 1), .e (.var 2)], .ag [.e (.var 3), .e (.var 4), .e (.var 5)]], pre := [], tin := [.int .i64, .int .i64, .int .i64, .int .i64, .int .i64, .int .i64], gin := [], res := .tu [.ag [.e (.var 0), .e (.var 1), .e (.var 2)], .s (.e (.var 3))], post := [], tout := [.int .i64, .int .i64, .int .i64, .bool], gout := [] }
def cl_iFracTimes : List (Nat × Sig) := [(86, sg_iFracValid), (87, sg_lowest)]
theorem run_iFracTimes : (fun H : List (Nat × List Sc) => run ⟨Tryz.prog, glb ++ H, cl_iFracTimes⟩ [] Tryz.f26 sg_iFracTimes (Tryz.f26.body.getD .skip)) = fun _ => tr_iFracTimes := by kernel_rfl
theorem om_iFracTimes (lv : LibV) : ΩOK ⟨Tryz.prog, (glb ++ lib lv), cl_iFracTimes⟩ (specsOf Fs_iFracTimes) := (ΩOK_cons (cong_iFracValid lv) Tryz.call86 (ΩOK_cons (cong_lowest lv) Tryz.call87 ΩOK_nil))
theorem con_iFracTimes (lv : LibV) : ConOK Tryz.prog (glb ++ lib lv) 26 sg_iFracTimes F_iFracTimes.spec := conOK_tree (om_iFracTimes lv) mixed Tryz.func26 (by kernel_rfl) (congrFun run_iFracTimes (lib lv))
theorem cong_iFracTimes (lv : LibV) : ConOK Tryz.prog (glb ++ lib lv) 26 sg_iFracTimes G_iFracTimes.spec := (con_iFracTimes lv).as as_iFracTimes
def sg_l2Sum : Sig := { args := [.ag [.e (.var 0), .e (.var 1), .e (.var 2)], .s (.e (.var 3)), .ag [.e (.var 4), .e (.var 5), .e (.var 6)]], pre := [], tin := [.int .i64, .int .i64, .int .i64, .int .i64, .int .i64, .int .i64, .int .i64], gin := [], res := .tu [.ag [.e (.var 0), .e (.var 1), .e (.var 2)], .s (.e (.var 3))], post := [], tout := [.int .i64, .int .i64, .int .i64, .bool], gout := [] }
def cl_l2Sum : List (Nat × Sig) := [(115, sg_sFracValid), (171, sg_l2Low)]
theorem run_l2Sum : (fun H : List (Nat × List Sc) => run ⟨Tryz.prog, glb ++ H, cl_l2Sum⟩ [] Tryz.f180 sg_l2Sum (Tryz.f180.body.getD .skip)) = fun _ => tr_l2Sum := by kernel_rfl
theorem om_l2Sum (lv : LibV) : ΩOK ⟨Tryz.prog, (glb ++ lib lv), cl_l2Sum⟩ (specsOf Fs_l2Sum) := (ΩOK_cons (cong_sFracValid lv) Tryz.call115 (ΩOK_cons (cong_l2Low lv) Tryz.call171 ΩOK_nil))
theorem con_l2Sum (lv : LibV) : ConOK Tryz.prog (glb ++ lib lv) 180 sg_l2Sum F_l2Sum.spec := conOK_tree (om_l2Sum lv) mixed Tryz.func180 (by kernel_rfl) (congrFun run_l2Sum (lib lv))
theorem cong_l2Sum (lv : LibV) : ConOK Tryz.prog (glb ++ lib lv) 180 sg_l2Sum G_l2Sum.spec := (con_l2Sum lv).as as_l2Sum
def sg_sFracAdd : Sig := { args := [.ag [.e (.var 0), .e (.var 1), .e (.var 2)], .ag [.e (.var 3), .e (.var 4), .e (.var 5)]], pre := [], tin := [.int .i64, .int .i64, .int .i64, .int .i64, .int .i64, .int .i64], gin := [], res := .tu [.ag [.e (.var 0), .e (.var 1), .e (.var 2)], .s (.e (.var 3))], post := [], tout := [.int .i64, .int .i64, .int .i64, .bool], gout := [] }
def cl_sFracAdd : List (Nat × Sig) := [(180, sg_l2Sum)]
theorem run_sFracAdd : (fun H : List (Nat × List Sc) => run ⟨Tryz.prog, glb ++ H, cl_sFracAdd⟩ [] Tryz.f168 sg_sFracAdd (Tryz.f168.body.getD .skip)) = fun _ => tr_sFracAdd := by kernel_rfl
theorem om_sFracAdd (lv : LibV) : ΩOK ⟨Tryz.prog, (glb ++ lib lv), cl_sFracAdd⟩ (specsOf Fs_sFracAdd) := (ΩOK_cons (cong_l2Sum lv) Tryz.call180 ΩOK_nil)
theorem con_sFracAdd (lv : LibV) : ConOK Tryz.prog (glb ++ lib lv) 168 sg_sFracAdd F_sFracAdd.spec := conOK_tree (om_sFracAdd lv) mixed Tryz.func168 (by kernel_rfl) (congrFun run_sFracAdd (lib lv))
theorem cong_sFracAdd (lv : LibV) : ConOK Tryz.prog (glb ++ lib lv) 168 sg_sFracAdd G_sFracAdd.spec := (con_sFracAdd lv).as as_sFracAdd
def sg_sFracTimes : Sig := { args := [.ag [.e (.var 0), .e (.var 1), .e (.var 2)], .ag [.e (.var 3), .e (.var 4), .e (.var 5)]], pre := [], tin := [.int .i64, .int .i64, .int .i64, .int .i64, .int .i64, .int .i64], gin := [], res := .tu [.ag [.e (.var 0), .e (.var 1), .e (.var 2)], .s (.e (.var 3))], post := [], tout := [.int .i64, .int .i64, .int .i64, .bool], gout := [] }
def cl_sFracTimes : List (Nat × Sig) := [(115, sg_sFracValid), (171, sg_l2Low)]
theorem run_sFracTimes : (fun H : List (Nat × List Sc) => run ⟨Tryz.prog, glb ++ H, cl_sFracTimes⟩ [] Tryz.f161 sg_sFracTimes (Tryz.f161.body.getD .skip)) = fun _ => tr_sFracTimes := by kernel_rfl
theorem om_sFracTimes (lv : LibV) : ΩOK ⟨Tryz.prog, (glb ++ lib lv), cl_sFracTimes⟩ (specsOf Fs_sFracTimes) := (ΩOK_cons (cong_sFracValid lv) Tryz.call115 (ΩOK_cons (cong_l2Low lv) Tryz.call171 ΩOK_nil))
theorem con_sFracTimes (lv : LibV) : ConOK Tryz.prog (glb ++ lib lv) 161 sg_sFracTimes F_sFracTimes.spec := conOK_tree (om_sFracTimes lv) mixed Tryz.func161 (by kernel_rfl) (congrFun run_sFracTimes (lib lv))
theorem cong_sFracTimes (lv : LibV) : ConOK Tryz.prog (glb ++ lib lv) 161 sg_sFracTimes G_sFracTimes.spec := (con_sFracTimes lv).as as_sFracTimes
def sg_keep : Sig := { args := [.s (.p (.own 0) 0), .ag [.e (.var 0), .e (.var 1), .e (.var 2)], .s (.e (.var 3))], pre := [⟨[.e (.var 4)], 112⟩], tin := [.int .i64, .int .i64, .int .i64, .bool, .bool], gin := [], res := .c (.ag [.e (.var 0), .e (.var 1), .e (.var 2)]), post := [⟨[.e (.var 3)], 112⟩], tout := [.int .i64, .int .i64, .int .i64, .bool], gout := [] }
def cl_keep : List (Nat × Sig) := []
theorem run_keep : (fun H : List (Nat × List Sc) => run ⟨Tryz.prog, glb ++ H, cl_keep⟩ [] Tryz.f133 sg_keep (Tryz.f133.body.getD .skip)) = fun _ => tr_keep := by kernel_rfl
theorem om_keep (lv : LibV) : ΩOK ⟨Tryz.prog, (glb ++ lib lv), cl_keep⟩ (specsOf Fs_keep) := ΩOK_nil
theorem con_keep (lv : LibV) : ConOK Tryz.prog (glb ++ lib lv) 133 sg_keep F_keep.spec := conOK_tree (om_keep lv) mixed Tryz.func133 (by kernel_rfl) (congrFun run_keep (lib lv))
def sg_add : Sig := { args := [.s (.p (.own 0) 0), .ag [.e (.var 0), .e (.var 1), .e (.var 2)], .ag [.e (.var 3), .e (.var 4), .e (.var 5)]], pre := [⟨[.e (.var 6)], 112⟩], tin := [.int .i64, .int .i64, .int .i64, .int .i64, .int .i64, .int .i64, .bool], gin := [], res := .c (.ag [.e (.var 0), .e (.var 1), .e (.var 2)]), post := [⟨[.e (.var 3)], 112⟩], tout := [.int .i64, .int .i64, .int .i64, .bool], gout := [] }
def cl_add : List (Nat × Sig) := [(137, sg_iFracAdd), (133, sg_keep)]
theorem run_add : (fun H : List (Nat × List Sc) => run ⟨Tryz.prog, glb ++ H, cl_add⟩ [] Tryz.f77 sg_add (Tryz.f77.body.getD .skip)) = fun _ => tr_add := by kernel_rfl
theorem om_add (lv : LibV) : ΩOK ⟨Tryz.prog, (glb ++ lib lv), cl_add⟩ (specsOf Fs_add) := (ΩOK_cons (cong_iFracAdd lv) Tryz.call137 (ΩOK_cons (con_keep lv) Tryz.call133 ΩOK_nil))
theorem con_add (lv : LibV) : ConOK Tryz.prog (glb ++ lib lv) 77 sg_add F_add.spec := conOK_tree (om_add lv) mixed Tryz.func77 (by kernel_rfl) (congrFun run_add (lib lv))
theorem cong_add (lv : LibV) : ConOK Tryz.prog (glb ++ lib lv) 77 sg_add G_add.spec := (con_add lv).as as_add
def sg_times : Sig := { args := [.s (.p (.own 0) 0), .ag [.e (.var 0), .e (.var 1), .e (.var 2)], .ag [.e (.var 3), .e (.var 4), .e (.var 5)]], pre := [⟨[.e (.var 6)], 112⟩], tin := [.int .i64, .int .i64, .int .i64, .int .i64, .int .i64, .int .i64, .bool], gin := [], res := .c (.ag [.e (.var 0), .e (.var 1), .e (.var 2)]), post := [⟨[.e (.var 3)], 112⟩], tout := [.int .i64, .int .i64, .int .i64, .bool], gout := [] }
def cl_times : List (Nat × Sig) := [(26, sg_iFracTimes), (133, sg_keep)]
theorem run_times : (fun H : List (Nat × List Sc) => run ⟨Tryz.prog, glb ++ H, cl_times⟩ [] Tryz.f72 sg_times (Tryz.f72.body.getD .skip)) = fun _ => tr_times := by kernel_rfl
theorem om_times (lv : LibV) : ΩOK ⟨Tryz.prog, (glb ++ lib lv), cl_times⟩ (specsOf Fs_times) := (ΩOK_cons (cong_iFracTimes lv) Tryz.call26 (ΩOK_cons (con_keep lv) Tryz.call133 ΩOK_nil))
theorem con_times (lv : LibV) : ConOK Tryz.prog (glb ++ lib lv) 72 sg_times F_times.spec := conOK_tree (om_times lv) mixed Tryz.func72 (by kernel_rfl) (congrFun run_times (lib lv))
theorem cong_times (lv : LibV) : ConOK Tryz.prog (glb ++ lib lv) 72 sg_times G_times.spec := (con_times lv).as as_times
def sg_need : Sig := { args := [.s (.p (.own 0) 0), .s (.e (.var 0))], pre := [⟨[.e (.var 1)], 112⟩], tin := [.bool, .bool], gin := [], res := .c (.s (.p (.own 0) 0)), post := [⟨[.e (.var 0)], 112⟩], tout := [.bool], gout := [] }
def cl_need : List (Nat × Sig) := []
theorem run_need : (fun H : List (Nat × List Sc) => run ⟨Tryz.prog, glb ++ H, cl_need⟩ [] Tryz.f68 sg_need (Tryz.f68.body.getD .skip)) = fun _ => tr_need := by kernel_rfl
theorem om_need (lv : LibV) : ΩOK ⟨Tryz.prog, (glb ++ lib lv), cl_need⟩ (specsOf Fs_need) := ΩOK_nil
theorem con_need (lv : LibV) : ConOK Tryz.prog (glb ++ lib lv) 68 sg_need F_need.spec := conOK_tree (om_need lv) mixed Tryz.func68 (by kernel_rfl) (congrFun run_need (lib lv))
theorem cong_need (lv : LibV) : ConOK Tryz.prog (glb ++ lib lv) 68 sg_need G_need.spec := (con_need lv).as as_need
def sg_l3Inner : Sig := { args := [.ag [.e (.var 0), .e (.var 1), .e (.var 2)], .ag [.e (.var 3), .e (.var 4), .e (.var 5)], .ag [.e (.var 6), .e (.var 7), .e (.var 8)], .ag [.e (.var 9), .e (.var 10), .e (.var 11)]], pre := [], tin := [.int .i64, .int .i64, .int .i64, .int .i64, .int .i64, .int .i64, .int .i64, .int .i64, .int .i64, .int .i64, .int .i64, .int .i64], gin := [], res := .tu [.ag [.e (.var 0), .e (.var 1), .e (.var 2)], .s (.e (.var 3))], post := [], tout := [.int .i64, .int .i64, .int .i64, .bool], gout := [] }
def cl_l3Inner : List (Nat × Sig) := [(161, sg_sFracTimes), (168, sg_sFracAdd)]
theorem run_l3Inner : (fun H : List (Nat × List Sc) => run ⟨Tryz.prog, glb ++ H, cl_l3Inner⟩ [] Tryz.f149 sg_l3Inner (Tryz.f149.body.getD .skip)) = fun _ => tr_l3Inner := by kernel_rfl
theorem om_l3Inner (lv : LibV) : ΩOK ⟨Tryz.prog, (glb ++ lib lv), cl_l3Inner⟩ (specsOf Fs_l3Inner) := (ΩOK_cons (cong_sFracTimes lv) Tryz.call161 (ΩOK_cons (cong_sFracAdd lv) Tryz.call168 ΩOK_nil))
theorem con_l3Inner (lv : LibV) : ConOK Tryz.prog (glb ++ lib lv) 149 sg_l3Inner F_l3Inner.spec := conOK_tree (om_l3Inner lv) mixed Tryz.func149 (by kernel_rfl) (congrFun run_l3Inner (lib lv))
theorem cong_l3Inner (lv : LibV) : ConOK Tryz.prog (glb ++ lib lv) 149 sg_l3Inner G_l3Inner.spec := (con_l3Inner lv).as as_l3Inner
def sg_iMatValid : Sig := { args := [.ag [.e (.var 0), .e (.var 1), .e (.var 2), .e (.var 3), .e (.var 4), .e (.var 5), .e (.var 6), .e (.var 7), .e (.var 8), .e (.var 9), .e (.var 10), .e (.var 11)]], pre := [], tin := [.int .i64, .int .i64, .int .i64, .int .i64, .int .i64, .int .i64, .int .i64, .int .i64, .int .i64, .int .i64, .int .i64, .int .i64], gin := [], res := .c (.s (.e (.var 0))), post := [], tout := [.bool], gout := [] }
def cl_iMatValid : List (Nat × Sig) := [(86, sg_iFracValid)]
theorem run_iMatValid : (fun H : List (Nat × List Sc) => run ⟨Tryz.prog, glb ++ H, cl_iMatValid⟩ [] Tryz.f69 sg_iMatValid (Tryz.f69.body.getD .skip)) = fun _ => tr_iMatValid := by kernel_rfl
theorem om_iMatValid (lv : LibV) : ΩOK ⟨Tryz.prog, (glb ++ lib lv), cl_iMatValid⟩ (specsOf Fs_iMatValid) := (ΩOK_cons (cong_iFracValid lv) Tryz.call86 ΩOK_nil)
theorem con_iMatValid (lv : LibV) : ConOK Tryz.prog (glb ++ lib lv) 69 sg_iMatValid F_iMatValid.spec := conOK_tree (om_iMatValid lv) mixed Tryz.func69 (by kernel_rfl) (congrFun run_iMatValid (lib lv))
theorem cong_iMatValid (lv : LibV) : ConOK Tryz.prog (glb ++ lib lv) 69 sg_iMatValid G_iMatValid.spec := (con_iMatValid lv).as as_iMatValid
def sg_sMatValid : Sig := { args := [.ag [.e (.var 0), .e (.var 1), .e (.var 2), .e (.var 3), .e (.var 4), .e (.var 5), .e (.var 6), .e (.var 7), .e (.var 8), .e (.var 9), .e (.var 10), .e (.var 11)]], pre := [], tin := [.int .i64, .int .i64, .int .i64, .int .i64, .int .i64, .int .i64, .int .i64, .int .i64, .int .i64, .int .i64, .int .i64, .int .i64], gin := [], res := .c (.s (.e (.var 0))), post := [], tout := [.bool], gout := [] }
def cl_sMatValid : List (Nat × Sig) := [(115, sg_sFracValid)]
theorem run_sMatValid : (fun H : List (Nat × List Sc) => run ⟨Tryz.prog, glb ++ H, cl_sMatValid⟩ [] Tryz.f148 sg_sMatValid (Tryz.f148.body.getD .skip)) = fun _ => tr_sMatValid := by kernel_rfl
theorem om_sMatValid (lv : LibV) : ΩOK ⟨Tryz.prog, (glb ++ lib lv), cl_sMatValid⟩ (specsOf Fs_sMatValid) := (ΩOK_cons (cong_sFracValid lv) Tryz.call115 ΩOK_nil)
theorem con_sMatValid (lv : LibV) : ConOK Tryz.prog (glb ++ lib lv) 148 sg_sMatValid F_sMatValid.spec := conOK_tree (om_sMatValid lv) mixed Tryz.func148 (by kernel_rfl) (congrFun run_sMatValid (lib lv))
theorem cong_sMatValid (lv : LibV) : ConOK Tryz.prog (glb ++ lib lv) 148 sg_sMatValid G_sMatValid.spec := (con_sMatValid lv).as as_sMatValid
def sg_iFracMirror : Sig := { args := [.ag [.e (.var 0), .e (.var 1), .e (.var 2)]], pre := [], tin := [.int .i64, .int .i64, .int .i64], gin := [], res := .tu [.ag [.e (.var 0), .e (.var 1), .e (.var 2)], .s (.e (.var 3))], post := [], tout := [.int .i64, .int .i64, .int .i64, .bool], gout := [] }
def cl_iFracMirror : List (Nat × Sig) := [(86, sg_iFracValid)]
theorem run_iFracMirror : (fun H : List (Nat × List Sc) => run ⟨Tryz.prog, glb ++ H, cl_iFracMirror⟩ [] Tryz.f135 sg_iFracMirror (Tryz.f135.body.getD .skip)) = fun _ => tr_iFracMirror := by kernel_rfl
theorem om_iFracMirror (lv : LibV) : ΩOK ⟨Tryz.prog, (glb ++ lib lv), cl_iFracMirror⟩ (specsOf Fs_iFracMirror) := (ΩOK_cons (cong_iFracValid lv) Tryz.call86 ΩOK_nil)
theorem con_iFracMirror (lv : LibV) : ConOK Tryz.prog (glb ++ lib lv) 135 sg_iFracMirror F_iFracMirror.spec := conOK_tree (om_iFracMirror lv) mixed Tryz.func135 (by kernel_rfl) (congrFun run_iFracMirror (lib lv))
theorem cong_iFracMirror (lv : LibV) : ConOK Tryz.prog (glb ++ lib lv) 135 sg_iFracMirror G_iFracMirror.spec := (con_iFracMirror lv).as as_iFracMirror
def sg_sFracMirror : Sig := { args := [.ag [.e (.var 0), .e (.var 1), .e (.var 2)]], pre := [], tin := [.int .i64, .int .i64, .int .i64], gin := [], res := .tu [.ag [.e (.var 0), .e (.var 1), .e (.var 2)], .s (.e (.var 3))], post := [], tout := [.int .i64, .int .i64, .int .i64, .bool], gout := [] }
def cl_sFracMirror : List (Nat × Sig) := [(115, sg_sFracValid)]
theorem run_sFracMirror : (fun H : List (Nat × List Sc) => run ⟨Tryz.prog, glb ++ H, cl_sFracMirror⟩ [] Tryz.f167 sg_sFracMirror (Tryz.f167.body.getD .skip)) = fun _ => tr_sFracMirror := by kernel_rfl
theorem om_sFracMirror (lv : LibV) : ΩOK ⟨Tryz.prog, (glb ++ lib lv), cl_sFracMirror⟩ (specsOf Fs_sFracMirror) := (ΩOK_cons (cong_sFracValid lv) Tryz.call115 ΩOK_nil)
theorem con_sFracMirror (lv : LibV) : ConOK Tryz.prog (glb ++ lib lv) 167 sg_sFracMirror F_sFracMirror.spec := conOK_tree (om_sFracMirror lv) mixed Tryz.func167 (by kernel_rfl) (congrFun run_sFracMirror (lib lv))
theorem cong_sFracMirror (lv : LibV) : ConOK Tryz.prog (glb ++ lib lv) 167 sg_sFracMirror G_sFracMirror.spec := (con_sFracMirror lv).as as_sFracMirror
def sg_mirror : Sig := { args := [.s (.p (.own 0) 0), .ag [.e (.var 0), .e (.var 1), .e (.var 2)]], pre := [⟨[.e (.var 3)], 112⟩], tin := [.int .i64, .int .i64, .int .i64, .bool], gin := [], res := .c (.ag [.e (.var 0), .e (.var 1), .e (.var 2)]), post := [⟨[.e (.var 3)], 112⟩], tout := [.int .i64, .int .i64, .int .i64, .bool], gout := [] }
def cl_mirror : List (Nat × Sig) := [(135, sg_iFracMirror), (133, sg_keep)]
theorem run_mirror : (fun H : List (Nat × List Sc) => run ⟨Tryz.prog, glb ++ H, cl_mirror⟩ [] Tryz.f73 sg_mirror (Tryz.f73.body.getD .skip)) = fun _ => tr_mirror := by kernel_rfl
theorem om_mirror (lv : LibV) : ΩOK ⟨Tryz.prog, (glb ++ lib lv), cl_mirror⟩ (specsOf Fs_mirror) := (ΩOK_cons (cong_iFracMirror lv) Tryz.call135 (ΩOK_cons (con_keep lv) Tryz.call133 ΩOK_nil))
theorem con_mirror (lv : LibV) : ConOK Tryz.prog (glb ++ lib lv) 73 sg_mirror F_mirror.spec := conOK_tree (om_mirror lv) mixed Tryz.func73 (by kernel_rfl) (congrFun run_mirror (lib lv))
theorem cong_mirror (lv : LibV) : ConOK Tryz.prog (glb ++ lib lv) 73 sg_mirror G_mirror.spec := (con_mirror lv).as as_mirror
def sg_mcell00 : Sig := { args := [.s (.e (.int .i64 (0))), .s (.e (.int .i64 (0))), .s (.p (.own 0) 0), .s (.p (.own 1) 0), .s (.p (.own 2) 0)], pre := [⟨[.p (.own 3) 0], 110⟩, ⟨[.e (.var 0), .e (.var 1), .e (.var 2), .e (.var 3), .e (.var 4), .e (.var 5), .e (.var 6), .e (.var 7), .e (.var 8), .e (.var 9), .e (.var 10), .e (.var 11)], 44⟩, ⟨[.e (.var 12), .e (.var 13), .e (.var 14), .e (.var 15), .e (.var 16), .e (.var 17), .e (.var 18), .e (.var 19), .e (.var 20), .e (.var 21), .e (.var 22), .e (.var 23)], 44⟩, ⟨[.e (.var 24)], 112⟩], tin := [.int .i64, .int .i64, .int .i64, .int .i64, .int .i64, .int .i64, .int .i64, .int .i64, .int .i64, .int .i64, .int .i64, .int .i64, .int .i64, .int .i64, .int .i64, .int .i64, .int .i64, .int .i64, .int .i64, .int .i64, .int .i64, .int .i64, .int .i64, .int .i64, .bool], gin := [], res := .c (.ag [.e (.var 0), .e (.var 1), .e (.var 2)]), post := [⟨[.p (.own 3) 0], 110⟩, ⟨[.e (.var 3), .e (.var 4), .e (.var 5), .e (.var 6), .e (.var 7), .e (.var 8), .e (.var 9), .e (.var 10), .e (.var 11), .e (.var 12), .e (.var 13), .e (.var 14)], 44⟩, ⟨[.e (.var 15), .e (.var 16), .e (.var 17), .e (.var 18), .e (.var 19), .e (.var 20), .e (.var 21), .e (.var 22), .e (.var 23), .e (.var 24), .e (.var 25), .e (.var 26)], 44⟩, ⟨[.e (.var 27)], 112⟩], tout := [.int .i64, .int .i64, .int .i64, .int .i64, .int .i64, .int .i64, .int .i64, .int .i64, .int .i64, .int .i64, .int .i64, .int .i64, .int .i64, .int .i64, .int .i64, .int .i64, .int .i64, .int .i64, .int .i64, .int .i64, .int .i64, .int .i64, .int .i64, .int .i64, .int .i64, .int .i64, .int .i64, .bool], gout := [] }
def cl_mcell00 : List (Nat × Sig) := [(72, sg_times), (77, sg_add)]
theorem run_mcell00 : (fun H : List (Nat × List Sc) => run ⟨Tryz.prog, glb ++ H, cl_mcell00⟩ [] Tryz.f109 sg_mcell00 (Tryz.f109.body.getD .skip)) = fun _ => tr_mcell00 := by kernel_rfl
theorem om_mcell00 (lv : LibV) : ΩOK ⟨Tryz.prog, (glb ++ lib lv), cl_mcell00⟩ (specsOf Fs_mcell00) := (ΩOK_cons (cong_times lv) Tryz.call72 (ΩOK_cons (cong_add lv) Tryz.call77 ΩOK_nil))
theorem con_mcell00 (lv : LibV) : ConOK Tryz.prog (glb ++ lib lv) 109 sg_mcell00 F_mcell00.spec := conOK_tree (om_mcell00 lv) mixed Tryz.func109 (by kernel_rfl) (congrFun run_mcell00 (lib lv))
theorem cong_mcell00 (lv : LibV) : ConOK Tryz.prog (glb ++ lib lv) 109 sg_mcell00 G_mcell00.spec := (con_mcell00 lv).as as_mcell00
def sg_mcell01 : Sig := { args := [.s (.e (.int .i64 (0))), .s (.e (.int .i64 (1))), .s (.p (.own 0) 0), .s (.p (.own 1) 0), .s (.p (.own 2) 0)], pre := [⟨[.p (.own 3) 0], 110⟩, ⟨[.e (.var 0), .e (.var 1), .e (.var 2), .e (.var 3), .e (.var 4), .e (.var 5), .e (.var 6), .e (.var 7), .e (.var 8), .e (.var 9), .e (.var 10), .e (.var 11)], 44⟩, ⟨[.e (.var 12), .e (.var 13), .e (.var 14), .e (.var 15), .e (.var 16), .e (.var 17), .e (.var 18), .e (.var 19), .e (.var 20), .e (.var 21), .e (.var 22), .e (.var 23)], 44⟩, ⟨[.e (.var 24)], 112⟩], tin := [.int .i64, .int .i64, .int .i64, .int .i64, .int .i64, .int .i64, .int .i64, .int .i64, .int .i64, .int .i64, .int .i64, .int .i64, .int .i64, .int .i64, .int .i64, .int .i64, .int .i64, .int .i64, .int .i64, .int .i64, .int .i64, .int .i64, .int .i64, .int .i64, .bool], gin := [], res := .c (.ag [.e (.var 0), .e (.var 1), .e (.var 2)]), post := [⟨[.p (.own 3) 0], 110⟩, ⟨[.e (.var 3), .e (.var 4), .e (.var 5), .e (.var 6), .e (.var 7), .e (.var 8), .e (.var 9), .e (.var 10), .e (.var 11), .e (.var 12), .e (.var 13), .e (.var 14)], 44⟩, ⟨[.e (.var 15), .e (.var 16), .e (.var 17), .e (.var 18), .e (.var 19), .e (.var 20), .e (.var 21), .e (.var 22), .e (.var 23), .e (.var 24), .e (.var 25), .e (.var 26)], 44⟩, ⟨[.e (.var 27)], 112⟩], tout := [.int .i64, .int .i64, .int .i64, .int .i64, .int .i64, .int .i64, .int .i64, .int .i64, .int .i64, .int .i64, .int .i64, .int .i64, .int .i64, .int .i64, .int .i64, .int .i64, .int .i64, .int .i64, .int .i64, .int .i64, .int .i64, .int .i64, .int .i64, .int .i64, .int .i64, .int .i64, .int .i64, .bool], gout := [] }
def cl_mcell01 : List (Nat × Sig) := [(72, sg_times), (77, sg_add)]
theorem run_mcell01 : (fun H : List (Nat × List Sc) => run ⟨Tryz.prog, glb ++ H, cl_mcell01⟩ [] Tryz.f109 sg_mcell01 (Tryz.f109.body.getD .skip)) = fun _ => tr_mcell01 := by kernel_rfl
theorem om_mcell01 (lv : LibV) : ΩOK ⟨Tryz.prog, (glb ++ lib lv), cl_mcell01⟩ (specsOf Fs_mcell01) := (ΩOK_cons (cong_times lv) Tryz.call72 (ΩOK_cons (cong_add lv) Tryz.call77 ΩOK_nil))
theorem con_mcell01 (lv : LibV) : ConOK Tryz.prog (glb ++ lib lv) 109 sg_mcell01 F_mcell01.spec := conOK_tree (om_mcell01 lv) mixed Tryz.func109 (by kernel_rfl) (congrFun run_mcell01 (lib lv))
theorem cong_mcell01 (lv : LibV) : ConOK Tryz.prog (glb ++ lib lv) 109 sg_mcell01 G_mcell01.spec := (con_mcell01 lv).as as_mcell01
def sg_mcell10 : Sig := { args := [.s (.e (.int .i64 (1))), .s (.e (.int .i64 (0))), .s (.p (.own 0) 0), .s (.p (.own 1) 0), .s (.p (.own 2) 0)], pre := [⟨[.p (.own 3) 0], 110⟩, ⟨[.e (.var 0), .e (.var 1), .e (.var 2), .e (.var 3), .e (.var 4), .e (.var 5), .e (.var 6), .e (.var 7), .e (.var 8), .e (.var 9), .e (.var 10), .e (.var 11)], 44⟩, ⟨[.e (.var 12), .e (.var 13), .e (.var 14), .e (.var 15), .e (.var 16), .e (.var 17), .e (.var 18), .e (.var 19), .e (.var 20), .e (.var 21), .e (.var 22), .e (.var 23)], 44⟩, ⟨[.e (.var 24)], 112⟩], tin := [.int .i64, .int .i64, .int .i64, .int .i64, .int .i64, .int .i64, .int .i64, .int .i64, .int .i64, .int .i64, .int .i64, .int .i64, .int .i64, .int .i64, .int .i64, .int .i64, .int .i64, .int .i64, .int .i64, .int .i64, .int .i64, .int .i64, .int .i64, .int .i64, .bool], gin := [], res := .c (.ag [.e (.var 0), .e (.var 1), .e (.var 2)]), post := [⟨[.p (.own 3) 0], 110⟩, ⟨[.e (.var 3), .e (.var 4), .e (.var 5), .e (.var 6), .e (.var 7), .e (.var 8), .e (.var 9), .e (.var 10), .e (.var 11), .e (.var 12), .e (.var 13), .e (.var 14)], 44⟩, ⟨[.e (.var 15), .e (.var 16), .e (.var 17), .e (.var 18), .e (.var 19), .e (.var 20), .e (.var 21), .e (.var 22), .e (.var 23), .e (.var 24), .e (.var 25), .e (.var 26)], 44⟩, ⟨[.e (.var 27)], 112⟩], tout := [.int .i64, .int .i64, .int .i64, .int .i64, .int .i64, .int .i64, .int .i64, .int .i64, .int .i64, .int .i64, .int .i64, .int .i64, .int .i64, .int .i64, .int .i64, .int .i64, .int .i64, .int .i64, .int .i64, .int .i64, .int .i64, .int .i64, .int .i64, .int .i64, .int .i64, .int .i64, .int .i64, .bool], gout := [] }
def cl_mcell10 : List (Nat × Sig) := [(72, sg_times), (77, sg_add)]
theorem run_mcell10 : (fun H : List (Nat × List Sc) => run ⟨Tryz.prog, glb ++ H, cl_mcell10⟩ [] Tryz.f109 sg_mcell10 (Tryz.f109.body.getD .skip)) = fun _ => tr_mcell10 := by kernel_rfl
theorem om_mcell10 (lv : LibV) : ΩOK ⟨Tryz.prog, (glb ++ lib lv), cl_mcell10⟩ (specsOf Fs_mcell10) := (ΩOK_cons (cong_times lv) Tryz.call72 (ΩOK_cons (cong_add lv) Tryz.call77 ΩOK_nil))
theorem con_mcell10 (lv : LibV) : ConOK Tryz.prog (glb ++ lib lv) 109 sg_mcell10 F_mcell10.spec := conOK_tree (om_mcell10 lv) mixed Tryz.func109 (by kernel_rfl) (congrFun run_mcell10 (lib lv))
theorem cong_mcell10 (lv : LibV) : ConOK Tryz.prog (glb ++ lib lv) 109 sg_mcell10 G_mcell10.spec := (con_mcell10 lv).as as_mcell10
def sg_mcell11 : Sig := { args := [.s (.e (.int .i64 (1))), .s (.e (.int .i64 (1))), .s (.p (.own 0) 0), .s (.p (.own 1) 0), .s (.p (.own 2) 0)], pre := [⟨[.p (.own 3) 0], 110⟩, ⟨[.e (.var 0), .e (.var 1), .e (.var 2), .e (.var 3), .e (.var 4), .e (.var 5), .e (.var 6), .e (.var 7), .e (.var 8), .e (.var 9), .e (.var 10), .e (.var 11)], 44⟩, ⟨[.e (.var 12), .e (.var 13), .e (.var 14), .e (.var 15), .e (.var 16), .e (.var 17), .e (.var 18), .e (.var 19), .e (.var 20), .e (.var 21), .e (.var 22), .e (.var 23)], 44⟩, ⟨[.e (.var 24)], 112⟩], tin := [.int .i64, .int .i64, .int .i64, .int .i64, .int .i64, .int .i64, .int .i64, .int .i64, .int .i64, .int .i64, .int .i64, .int .i64, .int .i64, .int .i64, .int .i64, .int .i64, .int .i64, .int .i64, .int .i64, .int .i64, .int .i64, .int .i64, .int .i64, .int .i64, .bool], gin := [], res := .c (.ag [.e (.var 0), .e (.var 1), .e (.var 2)]), post := [⟨[.p (.own 3) 0], 110⟩, ⟨[.e (.var 3), .e (.var 4), .e (.var 5), .e (.var 6), .e (.var 7), .e (.var 8), .e (.var 9), .e (.var 10), .e (.var 11), .e (.var 12), .e (.var 13), .e (.var 14)], 44⟩, ⟨[.e (.var 15), .e (.var 16), .e (.var 17), .e (.var 18), .e (.var 19), .e (.var 20), .e (.var 21), .e (.var 22), .e (.var 23), .e (.var 24), .e (.var 25), .e (.var 26)], 44⟩, ⟨[.e (.var 27)], 112⟩], tout := [.int .i64, .int .i64, .int .i64, .int .i64, .int .i64, .int .i64, .int .i64, .int .i64, .int .i64, .int .i64, .int .i64, .int .i64, .int .i64, .int .i64, .int .i64, .int .i64, .int .i64, .int .i64, .int .i64, .int .i64, .int .i64, .int .i64, .int .i64, .int .i64, .int .i64, .int .i64, .int .i64, .bool], gout := [] }
def cl_mcell11 : List (Nat × Sig) := [(72, sg_times), (77, sg_add)]
theorem run_mcell11 : (fun H : List (Nat × List Sc) => run ⟨Tryz.prog, glb ++ H, cl_mcell11⟩ [] Tryz.f109 sg_mcell11 (Tryz.f109.body.getD .skip)) = fun _ => tr_mcell11 := by kernel_rfl
theorem om_mcell11 (lv : LibV) : ΩOK ⟨Tryz.prog, (glb ++ lib lv), cl_mcell11⟩ (specsOf Fs_mcell11) := (ΩOK_cons (cong_times lv) Tryz.call72 (ΩOK_cons (cong_add lv) Tryz.call77 ΩOK_nil))
theorem con_mcell11 (lv : LibV) : ConOK Tryz.prog (glb ++ lib lv) 109 sg_mcell11 F_mcell11.spec := conOK_tree (om_mcell11 lv) mixed Tryz.func109 (by kernel_rfl) (congrFun run_mcell11 (lib lv))
theorem cong_mcell11 (lv : LibV) : ConOK Tryz.prog (glb ++ lib lv) 109 sg_mcell11 G_mcell11.spec := (con_mcell11 lv).as as_mcell11
def sg_gotMat : Sig := { args := [.s (.p (.own 0) 0), .ag [.e (.var 0), .e (.var 1), .e (.var 2), .e (.var 3), .e (.var 4), .e (.var 5), .e (.var 6), .e (.var 7), .e (.var 8), .e (.var 9), .e (.var 10), .e (.var 11)]], pre := [⟨[.e (.var 12)], 112⟩], tin := [.int .i64, .int .i64, .int .i64, .int .i64, .int .i64, .int .i64, .int .i64, .int .i64, .int .i64, .int .i64, .int .i64, .int .i64, .bool], gin := [], res := .tu [.ag [.e (.var 0), .e (.var 1), .e (.var 2), .e (.var 3), .e (.var 4), .e (.var 5), .e (.var 6), .e (.var 7), .e (.var 8), .e (.var 9), .e (.var 10), .e (.var 11)], .s (.e (.var 12))], post := [⟨[.e (.var 13)], 112⟩], tout := [.int .i64, .int .i64, .int .i64, .int .i64, .int .i64, .int .i64, .int .i64, .int .i64, .int .i64, .int .i64, .int .i64, .int .i64, .bool, .bool], gout := [] }
def cl_gotMat : List (Nat × Sig) := []
theorem run_gotMat : (fun H : List (Nat × List Sc) => run ⟨Tryz.prog, glb ++ H, cl_gotMat⟩ [] Tryz.f108 sg_gotMat (Tryz.f108.body.getD .skip)) = fun _ => tr_gotMat := by kernel_rfl
theorem om_gotMat (lv : LibV) : ΩOK ⟨Tryz.prog, (glb ++ lib lv), cl_gotMat⟩ (specsOf Fs_gotMat) := ΩOK_nil
theorem con_gotMat (lv : LibV) : ConOK Tryz.prog (glb ++ lib lv) 108 sg_gotMat F_gotMat.spec := conOK_tree (om_gotMat lv) mixed Tryz.func108 (by kernel_rfl) (congrFun run_gotMat (lib lv))
theorem cong_gotMat (lv : LibV) : ConOK Tryz.prog (glb ++ lib lv) 108 sg_gotMat G_gotMat.spec := (con_gotMat lv).as as_gotMat
def sg_iMatTimes : Sig := { args := [.ag [.e (.var 0), .e (.var 1), .e (.var 2), .e (.var 3), .e (.var 4), .e (.var 5), .e (.var 6), .e (.var 7), .e (.var 8), .e (.var 9), .e (.var 10), .e (.var 11)], .ag [.e (.var 12), .e (.var 13), .e (.var 14), .e (.var 15), .e (.var 16), .e (.var 17), .e (.var 18), .e (.var 19), .e (.var 20), .e (.var 21), .e (.var 22), .e (.var 23)]], pre := [], tin := [.int .i64, .int .i64, .int .i64, .int .i64, .int .i64, .int .i64, .int .i64, .int .i64, .int .i64, .int .i64, .int .i64, .int .i64, .int .i64, .int .i64, .int .i64, .int .i64, .int .i64, .int .i64, .int .i64, .int .i64, .int .i64, .int .i64, .int .i64, .int .i64], gin := [], res := .tu [.ag [.e (.var 0), .e (.var 1), .e (.var 2), .e (.var 3), .e (.var 4), .e (.var 5), .e (.var 6), .e (.var 7), .e (.var 8), .e (.var 9), .e (.var 10), .e (.var 11)], .s (.e (.var 12))], post := [], tout := [.int .i64, .int .i64, .int .i64, .int .i64, .int .i64, .int .i64, .int .i64, .int .i64, .int .i64, .int .i64, .int .i64, .int .i64, .bool], gout := [] }
def cl_iMatTimes : List (Nat × Sig) := [(69, sg_iMatValid), (68, sg_need), (109, sg_mcell00), (109, sg_mcell01), (109, sg_mcell10), (109, sg_mcell11), (108, sg_gotMat)]
theorem run_iMatTimes : (fun H : List (Nat × List Sc) => run ⟨Tryz.prog, glb ++ H, cl_iMatTimes⟩ [] Tryz.f45 sg_iMatTimes (Tryz.f45.body.getD .skip)) = fun _ => tr_iMatTimes := by kernel_rfl
theorem om_iMatTimes (lv : LibV) : ΩOK ⟨Tryz.prog, (glb ++ lib lv), cl_iMatTimes⟩ (specsOf Fs_iMatTimes) := (ΩOK_cons (cong_iMatValid lv) Tryz.call69 (ΩOK_cons (cong_need lv) Tryz.call68 (ΩOK_cons (cong_mcell00 lv) Tryz.call109 (ΩOK_cons (cong_mcell01 lv) Tryz.call109 (ΩOK_cons (cong_mcell10 lv) Tryz.call109 (ΩOK_cons (cong_mcell11 lv) Tryz.call109 (ΩOK_cons (cong_gotMat lv) Tryz.call108 ΩOK_nil)))))))
theorem con_iMatTimes (lv : LibV) : ConOK Tryz.prog (glb ++ lib lv) 45 sg_iMatTimes F_iMatTimes.spec := conOK_tree (om_iMatTimes lv) mixed Tryz.func45 (by kernel_rfl) (congrFun run_iMatTimes (lib lv))
theorem cong_iMatTimes (lv : LibV) : ConOK Tryz.prog (glb ++ lib lv) 45 sg_iMatTimes G_iMatTimes.spec := (con_iMatTimes lv).as as_iMatTimes
def sg_l5Four : Sig := { args := [.ag [.e (.var 0), .e (.var 1), .e (.var 2)], .ag [.e (.var 3), .e (.var 4), .e (.var 5)], .ag [.e (.var 6), .e (.var 7), .e (.var 8)], .ag [.e (.var 9), .e (.var 10), .e (.var 11)], .s (.e (.var 12))], pre := [], tin := [.int .i64, .int .i64, .int .i64, .int .i64, .int .i64, .int .i64, .int .i64, .int .i64, .int .i64, .int .i64, .int .i64, .int .i64, .bool], gin := [], res := .tu [.ag [.e (.var 0), .e (.var 1), .e (.var 2), .e (.var 3), .e (.var 4), .e (.var 5), .e (.var 6), .e (.var 7), .e (.var 8), .e (.var 9), .e (.var 10), .e (.var 11)], .s (.e (.var 12))], post := [], tout := [.int .i64, .int .i64, .int .i64, .int .i64, .int .i64, .int .i64, .int .i64, .int .i64, .int .i64, .int .i64, .int .i64, .int .i64, .bool], gout := [] }
def cl_l5Four : List (Nat × Sig) := []
theorem run_l5Four : (fun H : List (Nat × List Sc) => run ⟨Tryz.prog, glb ++ H, cl_l5Four⟩ [] Tryz.f150 sg_l5Four (Tryz.f150.body.getD .skip)) = fun _ => tr_l5Four := by kernel_rfl
theorem om_l5Four (lv : LibV) : ΩOK ⟨Tryz.prog, (glb ++ lib lv), cl_l5Four⟩ (specsOf Fs_l5Four) := ΩOK_nil
theorem con_l5Four (lv : LibV) : ConOK Tryz.prog (glb ++ lib lv) 150 sg_l5Four F_l5Four.spec := conOK_tree (om_l5Four lv) mixed Tryz.func150 (by kernel_rfl) (congrFun run_l5Four (lib lv))
theorem cong_l5Four (lv : LibV) : ConOK Tryz.prog (glb ++ lib lv) 150 sg_l5Four G_l5Four.spec := (con_l5Four lv).as as_l5Four
def sg_sMatTimes : Sig := { args := [.ag [.e (.var 0), .e (.var 1), .e (.var 2), .e (.var 3), .e (.var 4), .e (.var 5), .e (.var 6), .e (.var 7), .e (.var 8), .e (.var 9), .e (.var 10), .e (.var 11)], .ag [.e (.var 12), .e (.var 13), .e (.var 14), .e (.var 15), .e (.var 16), .e (.var 17), .e (.var 18), .e (.var 19), .e (.var 20), .e (.var 21), .e (.var 22), .e (.var 23)]], pre := [], tin := [.int .i64, .int .i64, .int .i64, .int .i64, .int .i64, .int .i64, .int .i64, .int .i64, .int .i64, .int .i64, .int .i64, .int .i64, .int .i64, .int .i64, .int .i64, .int .i64, .int .i64, .int .i64, .int .i64, .int .i64, .int .i64, .int .i64, .int .i64, .int .i64], gin := [], res := .tu [.ag [.e (.var 0), .e (.var 1), .e (.var 2), .e (.var 3), .e (.var 4), .e (.var 5), .e (.var 6), .e (.var 7), .e (.var 8), .e (.var 9), .e (.var 10), .e (.var 11)], .s (.e (.var 12))], post := [], tout := [.int .i64, .int .i64, .int .i64, .int .i64, .int .i64, .int .i64, .int .i64, .int .i64, .int .i64, .int .i64, .int .i64, .int .i64, .bool], gout := [] }
def cl_sMatTimes : List (Nat × Sig) := [(148, sg_sMatValid), (149, sg_l3Inner), (150, sg_l5Four)]
theorem run_sMatTimes : (fun H : List (Nat × List Sc) => run ⟨Tryz.prog, glb ++ H, cl_sMatTimes⟩ [] Tryz.f92 sg_sMatTimes (Tryz.f92.body.getD .skip)) = fun _ => tr_sMatTimes := by kernel_rfl
theorem om_sMatTimes (lv : LibV) : ΩOK ⟨Tryz.prog, (glb ++ lib lv), cl_sMatTimes⟩ (specsOf Fs_sMatTimes) := (ΩOK_cons (cong_sMatValid lv) Tryz.call148 (ΩOK_cons (cong_l3Inner lv) Tryz.call149 (ΩOK_cons (cong_l5Four lv) Tryz.call150 ΩOK_nil)))
theorem con_sMatTimes (lv : LibV) : ConOK Tryz.prog (glb ++ lib lv) 92 sg_sMatTimes F_sMatTimes.spec := conOK_tree (om_sMatTimes lv) mixed Tryz.func92 (by kernel_rfl) (congrFun run_sMatTimes (lib lv))
theorem cong_sMatTimes (lv : LibV) : ConOK Tryz.prog (glb ++ lib lv) 92 sg_sMatTimes G_sMatTimes.spec := (con_sMatTimes lv).as as_sMatTimes
def sg_l5One : Sig := { args := [.ag [.e (.var 0), .e (.var 1), .e (.var 2)], .ag [.e (.var 3), .e (.var 4), .e (.var 5)]], pre := [], tin := [.int .i64, .int .i64, .int .i64, .int .i64, .int .i64, .int .i64], gin := [], res := .c (.ag [.e (.var 0), .e (.var 1), .e (.var 2), .e (.var 3), .e (.var 4), .e (.var 5), .e (.var 6), .e (.var 7), .e (.var 8), .e (.var 9), .e (.var 10), .e (.var 11)]), post := [], tout := [.int .i64, .int .i64, .int .i64, .int .i64, .int .i64, .int .i64, .int .i64, .int .i64, .int .i64, .int .i64, .int .i64, .int .i64], gout := [] }
def cl_l5One : List (Nat × Sig) := []
theorem run_l5One : (fun H : List (Nat × List Sc) => run ⟨Tryz.prog, glb ++ H, cl_l5One⟩ [] Tryz.f90 sg_l5One (Tryz.f90.body.getD .skip)) = fun _ => tr_l5One := by kernel_rfl
theorem om_l5One (lv : LibV) : ΩOK ⟨Tryz.prog, (glb ++ lib lv), cl_l5One⟩ (specsOf Fs_l5One) := ΩOK_nil
theorem con_l5One (lv : LibV) : ConOK Tryz.prog (glb ++ lib lv) 90 sg_l5One F_l5One.spec := conOK_tree (om_l5One lv) mixed Tryz.func90 (by kernel_rfl) (congrFun run_l5One (lib lv))
def sg_mrow0 : Sig := { args := [.s (.e (.int .i64 (0))), .s (.p (.own 0) 0), .s (.p (.own 1) 0), .s (.p (.own 2) 0)], pre := [⟨[.p (.own 3) 0], 110⟩, ⟨[.e (.var 0), .e (.var 1), .e (.var 2), .e (.var 3), .e (.var 4), .e (.var 5), .e (.var 6), .e (.var 7), .e (.var 8), .e (.var 9), .e (.var 10), .e (.var 11)], 44⟩, ⟨[.e (.var 12), .e (.var 13), .e (.var 14), .e (.var 15), .e (.var 16), .e (.var 17)], 66⟩, ⟨[.e (.var 18)], 112⟩], tin := [.int .i64, .int .i64, .int .i64, .int .i64, .int .i64, .int .i64, .int .i64, .int .i64, .int .i64, .int .i64, .int .i64, .int .i64, .int .i64, .int .i64, .int .i64, .int .i64, .int .i64, .int .i64, .bool], gin := [], res := .c (.ag [.e (.var 0), .e (.var 1), .e (.var 2)]), post := [⟨[.p (.own 3) 0], 110⟩, ⟨[.e (.var 3), .e (.var 4), .e (.var 5), .e (.var 6), .e (.var 7), .e (.var 8), .e (.var 9), .e (.var 10), .e (.var 11), .e (.var 12), .e (.var 13), .e (.var 14)], 44⟩, ⟨[.e (.var 15), .e (.var 16), .e (.var 17), .e (.var 18), .e (.var 19), .e (.var 20)], 66⟩, ⟨[.e (.var 21)], 112⟩], tout := [.int .i64, .int .i64, .int .i64, .int .i64, .int .i64, .int .i64, .int .i64, .int .i64, .int .i64, .int .i64, .int .i64, .int .i64, .int .i64, .int .i64, .int .i64, .int .i64, .int .i64, .int .i64, .int .i64, .int .i64, .int .i64, .bool], gout := [] }
def cl_mrow0 : List (Nat × Sig) := [(72, sg_times), (77, sg_add)]
theorem run_mrow0 : (fun H : List (Nat × List Sc) => run ⟨Tryz.prog, glb ++ H, cl_mrow0⟩ [] Tryz.f106 sg_mrow0 (Tryz.f106.body.getD .skip)) = fun _ => tr_mrow0 := by kernel_rfl
theorem om_mrow0 (lv : LibV) : ΩOK ⟨Tryz.prog, (glb ++ lib lv), cl_mrow0⟩ (specsOf Fs_mrow0) := (ΩOK_cons (cong_times lv) Tryz.call72 (ΩOK_cons (cong_add lv) Tryz.call77 ΩOK_nil))
theorem con_mrow0 (lv : LibV) : ConOK Tryz.prog (glb ++ lib lv) 106 sg_mrow0 F_mrow0.spec := conOK_tree (om_mrow0 lv) mixed Tryz.func106 (by kernel_rfl) (congrFun run_mrow0 (lib lv))
theorem cong_mrow0 (lv : LibV) : ConOK Tryz.prog (glb ++ lib lv) 106 sg_mrow0 G_mrow0.spec := (con_mrow0 lv).as as_mrow0
def sg_mrow1 : Sig := { args := [.s (.e (.int .i64 (1))), .s (.p (.own 0) 0), .s (.p (.own 1) 0), .s (.p (.own 2) 0)], pre := [⟨[.p (.own 3) 0], 110⟩, ⟨[.e (.var 0), .e (.var 1), .e (.var 2), .e (.var 3), .e (.var 4), .e (.var 5), .e (.var 6), .e (.var 7), .e (.var 8), .e (.var 9), .e (.var 10), .e (.var 11)], 44⟩, ⟨[.e (.var 12), .e (.var 13), .e (.var 14), .e (.var 15), .e (.var 16), .e (.var 17)], 66⟩, ⟨[.e (.var 18)], 112⟩], tin := [.int .i64, .int .i64, .int .i64, .int .i64, .int .i64, .int .i64, .int .i64, .int .i64, .int .i64, .int .i64, .int .i64, .int .i64, .int .i64, .int .i64, .int .i64, .int .i64, .int .i64, .int .i64, .bool], gin := [], res := .c (.ag [.e (.var 0), .e (.var 1), .e (.var 2)]), post := [⟨[.p (.own 3) 0], 110⟩, ⟨[.e (.var 3), .e (.var 4), .e (.var 5), .e (.var 6), .e (.var 7), .e (.var 8), .e (.var 9), .e (.var 10), .e (.var 11), .e (.var 12), .e (.var 13), .e (.var 14)], 44⟩, ⟨[.e (.var 15), .e (.var 16), .e (.var 17), .e (.var 18), .e (.var 19), .e (.var 20)], 66⟩, ⟨[.e (.var 21)], 112⟩], tout := [.int .i64, .int .i64, .int .i64, .int .i64, .int .i64, .int .i64, .int .i64, .int .i64, .int .i64, .int .i64, .int .i64, .int .i64, .int .i64, .int .i64, .int .i64, .int .i64, .int .i64, .int .i64, .int .i64, .int .i64, .int .i64, .bool], gout := [] }
def cl_mrow1 : List (Nat × Sig) := [(72, sg_times), (77, sg_add)]
theorem run_mrow1 : (fun H : List (Nat × List Sc) => run ⟨Tryz.prog, glb ++ H, cl_mrow1⟩ [] Tryz.f106 sg_mrow1 (Tryz.f106.body.getD .skip)) = fun _ => tr_mrow1 := by kernel_rfl
theorem om_mrow1 (lv : LibV) : ΩOK ⟨Tryz.prog, (glb ++ lib lv), cl_mrow1⟩ (specsOf Fs_mrow1) := (ΩOK_cons (cong_times lv) Tryz.call72 (ΩOK_cons (cong_add lv) Tryz.call77 ΩOK_nil))
theorem con_mrow1 (lv : LibV) : ConOK Tryz.prog (glb ++ lib lv) 106 sg_mrow1 F_mrow1.spec := conOK_tree (om_mrow1 lv) mixed Tryz.func106 (by kernel_rfl) (congrFun run_mrow1 (lib lv))
theorem cong_mrow1 (lv : LibV) : ConOK Tryz.prog (glb ++ lib lv) 106 sg_mrow1 G_mrow1.spec := (con_mrow1 lv).as as_mrow1
def sg_gotJones : Sig := { args := [.s (.p (.own 0) 0), .ag [.e (.var 0), .e (.var 1), .e (.var 2), .e (.var 3), .e (.var 4), .e (.var 5)]], pre := [⟨[.e (.var 6)], 112⟩], tin := [.int .i64, .int .i64, .int .i64, .int .i64, .int .i64, .int .i64, .bool], gin := [], res := .tu [.ag [.e (.var 0), .e (.var 1), .e (.var 2), .e (.var 3), .e (.var 4), .e (.var 5)], .s (.e (.var 6))], post := [⟨[.e (.var 7)], 112⟩], tout := [.int .i64, .int .i64, .int .i64, .int .i64, .int .i64, .int .i64, .bool, .bool], gout := [] }
def cl_gotJones : List (Nat × Sig) := []
theorem run_gotJones : (fun H : List (Nat × List Sc) => run ⟨Tryz.prog, glb ++ H, cl_gotJones⟩ [] Tryz.f107 sg_gotJones (Tryz.f107.body.getD .skip)) = fun _ => tr_gotJones := by kernel_rfl
theorem om_gotJones (lv : LibV) : ΩOK ⟨Tryz.prog, (glb ++ lib lv), cl_gotJones⟩ (specsOf Fs_gotJones) := ΩOK_nil
theorem con_gotJones (lv : LibV) : ConOK Tryz.prog (glb ++ lib lv) 107 sg_gotJones F_gotJones.spec := conOK_tree (om_gotJones lv) mixed Tryz.func107 (by kernel_rfl) (congrFun run_gotJones (lib lv))
theorem cong_gotJones (lv : LibV) : ConOK Tryz.prog (glb ++ lib lv) 107 sg_gotJones G_gotJones.spec := (con_gotJones lv).as as_gotJones
def sg_iJonesValid : Sig := { args := [.ag [.e (.var 0), .e (.var 1), .e (.var 2), .e (.var 3), .e (.var 4), .e (.var 5)]], pre := [], tin := [.int .i64, .int .i64, .int .i64, .int .i64, .int .i64, .int .i64], gin := [], res := .c (.s (.e (.var 0))), post := [], tout := [.bool], gout := [] }
def cl_iJonesValid : List (Nat × Sig) := [(86, sg_iFracValid)]
theorem run_iJonesValid : (fun H : List (Nat × List Sc) => run ⟨Tryz.prog, glb ++ H, cl_iJonesValid⟩ [] Tryz.f95 sg_iJonesValid (Tryz.f95.body.getD .skip)) = fun _ => tr_iJonesValid := by kernel_rfl
theorem om_iJonesValid (lv : LibV) : ΩOK ⟨Tryz.prog, (glb ++ lib lv), cl_iJonesValid⟩ (specsOf Fs_iJonesValid) := (ΩOK_cons (cong_iFracValid lv) Tryz.call86 ΩOK_nil)
theorem con_iJonesValid (lv : LibV) : ConOK Tryz.prog (glb ++ lib lv) 95 sg_iJonesValid F_iJonesValid.spec := conOK_tree (om_iJonesValid lv) mixed Tryz.func95 (by kernel_rfl) (congrFun run_iJonesValid (lib lv))
theorem cong_iJonesValid (lv : LibV) : ConOK Tryz.prog (glb ++ lib lv) 95 sg_iJonesValid G_iJonesValid.spec := (con_iJonesValid lv).as as_iJonesValid
def sg_iMatApply : Sig := { args := [.ag [.e (.var 0), .e (.var 1), .e (.var 2), .e (.var 3), .e (.var 4), .e (.var 5), .e (.var 6), .e (.var 7), .e (.var 8), .e (.var 9), .e (.var 10), .e (.var 11)], .ag [.e (.var 12), .e (.var 13), .e (.var 14), .e (.var 15), .e (.var 16), .e (.var 17)]], pre := [], tin := [.int .i64, .int .i64, .int .i64, .int .i64, .int .i64, .int .i64, .int .i64, .int .i64, .int .i64, .int .i64, .int .i64, .int .i64, .int .i64, .int .i64, .int .i64, .int .i64, .int .i64, .int .i64], gin := [], res := .tu [.ag [.e (.var 0), .e (.var 1), .e (.var 2), .e (.var 3), .e (.var 4), .e (.var 5)], .s (.e (.var 6))], post := [], tout := [.int .i64, .int .i64, .int .i64, .int .i64, .int .i64, .int .i64, .bool], gout := [] }
def cl_iMatApply : List (Nat × Sig) := [(69, sg_iMatValid), (95, sg_iJonesValid), (68, sg_need), (106, sg_mrow0), (106, sg_mrow1), (107, sg_gotJones)]
theorem run_iMatApply : (fun H : List (Nat × List Sc) => run ⟨Tryz.prog, glb ++ H, cl_iMatApply⟩ [] Tryz.f43 sg_iMatApply (Tryz.f43.body.getD .skip)) = fun _ => tr_iMatApply := by kernel_rfl
theorem om_iMatApply (lv : LibV) : ΩOK ⟨Tryz.prog, (glb ++ lib lv), cl_iMatApply⟩ (specsOf Fs_iMatApply) := (ΩOK_cons (cong_iMatValid lv) Tryz.call69 (ΩOK_cons (cong_iJonesValid lv) Tryz.call95 (ΩOK_cons (cong_need lv) Tryz.call68 (ΩOK_cons (cong_mrow0 lv) Tryz.call106 (ΩOK_cons (cong_mrow1 lv) Tryz.call106 (ΩOK_cons (cong_gotJones lv) Tryz.call107 ΩOK_nil))))))
theorem con_iMatApply (lv : LibV) : ConOK Tryz.prog (glb ++ lib lv) 43 sg_iMatApply F_iMatApply.spec := conOK_tree (om_iMatApply lv) mixed Tryz.func43 (by kernel_rfl) (congrFun run_iMatApply (lib lv))
theorem cong_iMatApply (lv : LibV) : ConOK Tryz.prog (glb ++ lib lv) 43 sg_iMatApply G_iMatApply.spec := (con_iMatApply lv).as as_iMatApply
def sg_pick : Sig := { args := [.s (.p (.own 0) 0), .s (.e (.var 0))], pre := [⟨[.e (.var 1), .e (.var 2)], 162⟩], tin := [.int .i64, .sl, .int .i64, .row .u8 1], gin := [(1, 3, 1)], res := .c (.s (.e (.var 0))), post := [⟨[.e (.var 1), .e (.var 2)], 162⟩], tout := [.int .i64, .sl, .int .i64], gout := [] }
def cl_pick : List (Nat × Sig) := []
theorem run_pick : (fun H : List (Nat × List Sc) => run ⟨Tryz.prog, glb ++ H, cl_pick⟩ [] Tryz.f105 sg_pick (Tryz.f105.body.getD .skip)) = fun _ => tr_pick := by kernel_rfl
theorem om_pick (lv : LibV) : ΩOK ⟨Tryz.prog, (glb ++ lib lv), cl_pick⟩ (specsOf Fs_pick) := ΩOK_nil
theorem con_pick (lv : LibV) : ConOK Tryz.prog (glb ++ lib lv) 105 sg_pick F_pick.spec := conOK_tree (om_pick lv) mixed Tryz.func105 (by kernel_rfl) (congrFun run_pick (lib lv))
def sg_sMatAdjoint : Sig := { args := [.ag [.e (.var 0), .e (.var 1), .e (.var 2), .e (.var 3), .e (.var 4), .e (.var 5), .e (.var 6), .e (.var 7), .e (.var 8), .e (.var 9), .e (.var 10), .e (.var 11)]], pre := [], tin := [.int .i64, .int .i64, .int .i64, .int .i64, .int .i64, .int .i64, .int .i64, .int .i64, .int .i64, .int .i64, .int .i64, .int .i64], gin := [], res := .tu [.ag [.e (.var 0), .e (.var 1), .e (.var 2), .e (.var 3), .e (.var 4), .e (.var 5), .e (.var 6), .e (.var 7), .e (.var 8), .e (.var 9), .e (.var 10), .e (.var 11)], .s (.e (.var 12))], post := [], tout := [.int .i64, .int .i64, .int .i64, .int .i64, .int .i64, .int .i64, .int .i64, .int .i64, .int .i64, .int .i64, .int .i64, .int .i64, .bool], gout := [] }
def cl_sMatAdjoint : List (Nat × Sig) := [(167, sg_sFracMirror), (150, sg_l5Four)]
theorem run_sMatAdjoint : (fun H : List (Nat × List Sc) => run ⟨Tryz.prog, glb ++ H, cl_sMatAdjoint⟩ [] Tryz.f172 sg_sMatAdjoint (Tryz.f172.body.getD .skip)) = fun _ => tr_sMatAdjoint := by kernel_rfl
theorem om_sMatAdjoint (lv : LibV) : ΩOK ⟨Tryz.prog, (glb ++ lib lv), cl_sMatAdjoint⟩ (specsOf Fs_sMatAdjoint) := (ΩOK_cons (cong_sFracMirror lv) Tryz.call167 (ΩOK_cons (cong_l5Four lv) Tryz.call150 ΩOK_nil))
theorem con_sMatAdjoint (lv : LibV) : ConOK Tryz.prog (glb ++ lib lv) 172 sg_sMatAdjoint F_sMatAdjoint.spec := conOK_tree (om_sMatAdjoint lv) mixed Tryz.func172 (by kernel_rfl) (congrFun run_sMatAdjoint (lib lv))
theorem cong_sMatAdjoint (lv : LibV) : ConOK Tryz.prog (glb ++ lib lv) 172 sg_sMatAdjoint G_sMatAdjoint.spec := (con_sMatAdjoint lv).as as_sMatAdjoint
def sg_sMatRotator : Sig := { args := [.s (.e (.var 0)), .s (.e (.var 1))], pre := [], tin := [.int .i64, .int .i64], gin := [], res := .tu [.ag [.e (.var 0), .e (.var 1), .e (.var 2), .e (.var 3), .e (.var 4), .e (.var 5), .e (.var 6), .e (.var 7), .e (.var 8), .e (.var 9), .e (.var 10), .e (.var 11)], .s (.e (.var 12))], post := [], tout := [.int .i64, .int .i64, .int .i64, .int .i64, .int .i64, .int .i64, .int .i64, .int .i64, .int .i64, .int .i64, .int .i64, .int .i64, .bool], gout := [] }
def cl_sMatRotator : List (Nat × Sig) := [(103, sg_l5Direction), (150, sg_l5Four)]
theorem run_sMatRotator : (fun H : List (Nat × List Sc) => run ⟨Tryz.prog, glb ++ H, cl_sMatRotator⟩ [] Tryz.f145 sg_sMatRotator (Tryz.f145.body.getD .skip)) = fun _ => tr_sMatRotator := by kernel_rfl
theorem om_sMatRotator (lv : LibV) : ΩOK ⟨Tryz.prog, (glb ++ lib lv), cl_sMatRotator⟩ (specsOf Fs_sMatRotator) := (ΩOK_cons (cong_l5Direction lv) Tryz.call103 (ΩOK_cons (cong_l5Four lv) Tryz.call150 ΩOK_nil))
theorem con_sMatRotator (lv : LibV) : ConOK Tryz.prog (glb ++ lib lv) 145 sg_sMatRotator F_sMatRotator.spec := conOK_tree (om_sMatRotator lv) mixed Tryz.func145 (by kernel_rfl) (congrFun run_sMatRotator (lib lv))
theorem cong_sMatRotator (lv : LibV) : ConOK Tryz.prog (glb ++ lib lv) 145 sg_sMatRotator G_sMatRotator.spec := (con_sMatRotator lv).as as_sMatRotator
def sg_l5PhaseK : Sig := { args := [.s (.e (.var 0))], pre := [], tin := [.int .i64], gin := [], res := .c (.ag [.e (.var 0), .e (.var 1), .e (.var 2)]), post := [], tout := [.int .i64, .int .i64, .int .i64], gout := [] }
def cl_l5PhaseK : List (Nat × Sig) := []
theorem run_l5PhaseK : (fun H : List (Nat × List Sc) => run ⟨Tryz.prog, glb ++ H, cl_l5PhaseK⟩ [] Tryz.f173 sg_l5PhaseK (Tryz.f173.body.getD .skip)) = fun _ => tr_l5PhaseK := by kernel_rfl
theorem om_l5PhaseK (lv : LibV) : ΩOK ⟨Tryz.prog, (glb ++ lib lv), cl_l5PhaseK⟩ (specsOf Fs_l5PhaseK) := ΩOK_nil
theorem con_l5PhaseK (lv : LibV) : ConOK Tryz.prog (glb ++ lib lv) 173 sg_l5PhaseK F_l5PhaseK.spec := conOK_tree (om_l5PhaseK lv) mixed Tryz.func173 (by kernel_rfl) (congrFun run_l5PhaseK (lib lv))
def sg_sMatPlate : Sig := { args := [.s (.e (.var 0)), .s (.e (.var 1)), .s (.e (.var 2))], pre := [], tin := [.int .i64, .int .i64, .int .i64], gin := [], res := .tu [.ag [.e (.var 0), .e (.var 1), .e (.var 2), .e (.var 3), .e (.var 4), .e (.var 5), .e (.var 6), .e (.var 7), .e (.var 8), .e (.var 9), .e (.var 10), .e (.var 11)], .s (.e (.var 12))], post := [], tout := [.int .i64, .int .i64, .int .i64, .int .i64, .int .i64, .int .i64, .int .i64, .int .i64, .int .i64, .int .i64, .int .i64, .int .i64, .bool], gout := [] }
def cl_sMatPlate : List (Nat × Sig) := [(145, sg_sMatRotator), (153, sg_l6In), (172, sg_sMatAdjoint), (173, sg_l5PhaseK), (90, sg_l5One), (92, sg_sMatTimes)]
theorem run_sMatPlate : (fun H : List (Nat × List Sc) => run ⟨Tryz.prog, glb ++ H, cl_sMatPlate⟩ [] Tryz.f146 sg_sMatPlate (Tryz.f146.body.getD .skip)) = fun _ => tr_sMatPlate := by kernel_rfl
theorem om_sMatPlate (lv : LibV) : ΩOK ⟨Tryz.prog, (glb ++ lib lv), cl_sMatPlate⟩ (specsOf Fs_sMatPlate) := (ΩOK_cons (cong_sMatRotator lv) Tryz.call145 (ΩOK_cons (cong_l6In lv) Tryz.call153 (ΩOK_cons (cong_sMatAdjoint lv) Tryz.call172 (ΩOK_cons (con_l5PhaseK lv) Tryz.call173 (ΩOK_cons (con_l5One lv) Tryz.call90 (ΩOK_cons (cong_sMatTimes lv) Tryz.call92 ΩOK_nil))))))
theorem con_sMatPlate (lv : LibV) : ConOK Tryz.prog (glb ++ lib lv) 146 sg_sMatPlate SP_sMatPlate := conOK_of (om_sMatPlate lv) mixed Tryz.func146 (by kernel_rfl) (congrFun run_sMatPlate (lib lv)) (fun ins K ht h => sat_sMatPlate Tryz.prog ins K ht h)
def sg_sMatFilter : Sig := { args := [.s (.e (.var 0)), .s (.e (.var 1))], pre := [], tin := [.int .i64, .int .i64], gin := [], res := .tu [.ag [.e (.var 0), .e (.var 1), .e (.var 2), .e (.var 3), .e (.var 4), .e (.var 5), .e (.var 6), .e (.var 7), .e (.var 8), .e (.var 9), .e (.var 10), .e (.var 11)], .s (.e (.var 12))], post := [], tout := [.int .i64, .int .i64, .int .i64, .int .i64, .int .i64, .int .i64, .int .i64, .int .i64, .int .i64, .int .i64, .int .i64, .int .i64, .bool], gout := [] }
def cl_sMatFilter : List (Nat × Sig) := [(103, sg_l5Direction), (161, sg_sFracTimes), (150, sg_l5Four)]
theorem run_sMatFilter : (fun H : List (Nat × List Sc) => run ⟨Tryz.prog, glb ++ H, cl_sMatFilter⟩ [] Tryz.f147 sg_sMatFilter (Tryz.f147.body.getD .skip)) = fun _ => tr_sMatFilter := by kernel_rfl
theorem om_sMatFilter (lv : LibV) : ΩOK ⟨Tryz.prog, (glb ++ lib lv), cl_sMatFilter⟩ (specsOf Fs_sMatFilter) := (ΩOK_cons (cong_l5Direction lv) Tryz.call103 (ΩOK_cons (cong_sFracTimes lv) Tryz.call161 (ΩOK_cons (cong_l5Four lv) Tryz.call150 ΩOK_nil)))
theorem con_sMatFilter (lv : LibV) : ConOK Tryz.prog (glb ++ lib lv) 147 sg_sMatFilter F_sMatFilter.spec := conOK_tree (om_sMatFilter lv) mixed Tryz.func147 (by kernel_rfl) (congrFun run_sMatFilter (lib lv))
theorem cong_sMatFilter (lv : LibV) : ConOK Tryz.prog (glb ++ lib lv) 147 sg_sMatFilter G_sMatFilter.spec := (con_sMatFilter lv).as as_sMatFilter
def sg_pickC : Sig := { args := [.s (.p (.own 0) 0), .s (.e (.var 0))], pre := [⟨[.e (.var 1), .e (.var 2)], 162⟩], tin := [.int .i64, .sl, .int .i64], gin := [], res := .c (.s (.e (.var 0))), post := [⟨[.e (.var 1), .e (.var 2)], 162⟩], tout := [.int .i64, .sl, .int .i64], gout := [] }
theorem con_pickC (lv : LibV) {cb : CodeB} (hk : CodeOk cb) (hG : Known cb (glb ++ lib lv ++ cb.tail)) : ConOK Tryz.prog (glb ++ lib lv ++ cb.tail) 105 sg_pickC (G_pick cb).spec := conOK_ghost (t := 162) hk hG (con_pick lv).more (ghost_pick hk)
def sg_openC : Sig := { args := [.s (.e (.var 0))], pre := [], tin := [.sl], gin := [], res := .c (.s (.p (.own 0) 0)), post := [⟨[.e (.var 0), .e (.var 1)], 162⟩], tout := [.sl, .int .i64], gout := [] }
set_option maxHeartbeats 800000 in
set_option maxRecDepth 1000000 in
theorem open_short (a : Option Addr) (len cap : Nat) (w : World) (hl : len ≤ 2000) :
    Calls Tryz.prog 62 #[.slice a len cap] w fun e w' => e = .returned (.pointer (some ⟨w.heap.size, 0, none⟩)) ∧ w' = w.alloc (.cells #[.slice a len cap, .int .i64 0] 162) := by
  go_enter Tryz.func62, Tryz.ntmps62
  go_wp2
  go_ret
  exact ⟨rfl, rfl⟩
set_option maxHeartbeats 800000 in
set_option maxRecDepth 1000000 in
theorem open_long (a : Addr) (len cap : Nat) (w : World) (hl : ¬ len ≤ 2000) (hc : len ≤ cap) (hm : len ≤ 1048576) :
    Calls Tryz.prog 62 #[.slice (some a) len cap] w fun e w' => e = .returned (.pointer (some ⟨w.heap.size, 0, none⟩)) ∧ w' = w.alloc (.cells #[.slice (some a) 2000 cap, .int .i64 0] 162) := by
  go_enter Tryz.func62, Tryz.ntmps62
  go_wp2
  go_ret
  exact ⟨rfl, rfl⟩
theorem con_openC (lv : LibV) {cb : CodeB} (_ : CodeOk cb) (_ : Known cb (glb ++ lib lv ++ cb.tail)) : ConOK Tryz.prog (glb ++ lib lv ++ cb.tail) 62 sg_openC (G_open cb).spec := conOK_open (t := 162) open_short open_long
def sg_Split : Sig := { args := [.s (.e (.var 0)), .s (.e (.var 1))], pre := [], tin := [.str, .str], gin := [], res := .c (.s (.e (.var 0))), post := [], tout := [.sl, .rowC [.str]], gout := [(0, 1, 1)] }
theorem con_Split (lv : LibV) : ConOK Tryz.prog (glb ++ lib lv) 122 sg_Split SP_Split :=
  conOK_split (t := 9) fun s sep w hg hs h1 => Tryz.strings_Split s sep lv.m w hs (glb_first (g := 5) (x := .int .i64 lv.m) hg rfl) h1
def sg_plainNumber : Sig := { args := [.s (.e (.var 0))], pre := [], tin := [.str], gin := [], res := .tu [.s (.e (.var 0)), .s (.e (.var 1))], post := [], tout := [.int .i64, .bool], gout := [] }
theorem num_tab (lv : LibV) {w : World} (hg : GlbOk (glb ++ lib lv) w) : Lib.TabIs Tryz.prog w "internal/strconv.uint64pow10" .u64 Lib.pow10Tab := tab_var (g := 4) (zs := Lib.pow10Tab) hg (by kernel_rfl) (by decide) (by kernel_rfl)
set_option maxHeartbeats 800000 in
set_option maxRecDepth 1000000 in
theorem number_walk (lv : LibV) (l : List UInt8) (w : World) (hg : GlbOk (glb ++ lib lv) w) (hl : l.length ≤ 2097152) :
    Calls Tryz.prog 164 #[bv l] w fun e w' => ∃ z b, e = .returned (.tuple #[.int .i64 z, .bool b]) ∧ I64 z ∧ (match num l with
      | some n => z = n ∧ b = true
      | none => b = false) ∧ RowKit.Below w.heap.size w w' := by
  have hsz : (⟨l.toArray⟩ : ByteArray).size = l.length := size_bv l
  have htab := num_tab lv hg
  have he1 : w.cell? ⟨8, 0, none⟩ = some lv.es := glb_first (x := .val lv.es) hg rfl
  have he2 : w.cell? ⟨9, 0, none⟩ = some lv.er := glb_first (x := .val lv.er) hg rfl
  unfold bv
  cases h : Lib.atoiAll l with
  | ok v =>
    obtain ⟨v0, v1⟩ := Lib.atoiAll_bounds h
    have hn : num l = if Lib.itoa v = l then some v else none := by unfold num; rw [h]
    rw [hn]
    have hB : ∀ W1, (W1 = w ∨ ∃ t, W1 = Lib.bytesWorld w 5 t) → Below w.heap.size w W1 := by
      rintro W1 (rfl | ⟨t, rfl⟩)
      · exact Below.refl _ _
      · exact Lib.bytesWorld_below w _ t
    have hT : ∀ W1, (W1 = w ∨ ∃ t, W1 = Lib.bytesWorld w 5 t) → Lib.TabIs Tryz.prog W1 "internal/strconv.uint64pow10" .u64 Lib.pow10Tab := fun W1 h1 => var_below (hB W1 h1) htab
    go_enter Tryz.func164, Tryz.ntmps164
    go_wp2_with (first | (go_at_call 184; refine (Tryz.strconv_Atoi_ok ⟨l.toArray⟩ (by rw [hsz]; omega) v h _).mono ?_; rintro e W1 ⟨rfl, hW⟩) | (go_at_call 102; refine (Tryz.strconv_Itoa v v0 v1 _ (hT _ hW)).mono ?_; rintro e W2 ⟨rfl, k, os, hW2⟩))
    · go_ret2
      exact ⟨v, rfl, ⟨v0, v1⟩, rfl, (hB _ hW).trans ((below_grow W1 k os).mono (hB _ hW).size)⟩
    · have hf : (Lib.itoa v == l) = false := by rw [beq_eq_false_iff_ne]; assumption
      rw [hf]
      go_ret2
      exact ⟨v, rfl, ⟨v0, v1⟩, (hB _ hW).trans ((below_grow W1 k os).mono (hB _ hW).size)⟩
  | «syntax» =>
    have hn : num l = none := by unfold num; rw [h]
    rw [hn]
    go_enter Tryz.func164, Tryz.ntmps164
    go_wp2_with (first | (go_at_call 184; refine (Tryz.strconv_Atoi_syntax ⟨l.toArray⟩ (by rw [hsz]; omega) h lv.es _ he1 lv.okS).mono ?_; rintro e W1 ⟨N, rfl, hN1, hN2, hB⟩) | (go_at_call 102; fail))
    go_ret2
    exact ⟨0, false, rfl, by unfold I64; omega, rfl, hB⟩
  | range =>
    have hn : num l = none := by unfold num; rw [h]
    rw [hn]
    go_enter Tryz.func164, Tryz.ntmps164
    go_wp2_with (first | (go_at_call 184; refine (Tryz.strconv_Atoi_range ⟨l.toArray⟩ (by rw [hsz]; omega) h lv.er _ he2 lv.okR).mono ?_; rintro e W1 ⟨N, rfl, hN1, hN2, hB⟩) | (go_at_call 102; fail))
    go_ret2
    exact ⟨_, false, rfl, by unfold I64 Lib.atoiSat; split <;> omega, rfl, hB⟩
theorem con_plainNumber (lv : LibV) : ConOK Tryz.prog (glb ++ lib lv) 164 sg_plainNumber SP_plainNumber := conOK_num (number_walk lv)
def sg_l6Dec : Sig := { args := [.s (.e (.var 0))], pre := [], tin := [.int .i64], gin := [], res := .c (.s (.e (.var 0))), post := [], tout := [.str], gout := [] }
theorem dec_conv (w : World) (t : TypeId) (x : Int) (fr : Nat × Nat) (g : Nat) (hg : g = w.heap.size) :
    (convert 36 9 (.slice (some ⟨g, 0, none⟩) 1 1)).run Tryz.prog (w.alloc (.cells #[.int .u8 x] t fr)) = .ok (.string ⟨#[UInt8.ofNat x.toNat]⟩) (w.alloc (.cells #[.int .u8 x] t fr)) := by
  subst hg
  have h := run_convert_bytes_arg (P := Tryz.prog) (w.alloc (.cells #[.int .u8 x] t fr)) 36 5 Tryz.underlying36 Tryz.underlying5 w.heap.size 0 1 1 [x] rfl (fun i hi => by
    have : i = 0 := by omega
    subst this
    rw [World.cell?_alloc_mark]
    rfl) 9 Tryz.underlying9
  exact h
theorem dec_conv_drew (w : World) (t : TypeId) (x : Int) (g : Nat) (hg : g = w.heap.size) :
    (convert 36 9 (.slice (some ⟨g, 0, none⟩) 1 1)).run Tryz.prog (w.alloc (.cells #[.int .u8 x] t)).drew = .ok (.string ⟨#[UInt8.ofNat x.toNat]⟩) (w.alloc (.cells #[.int .u8 x] t)).drew := by
  subst hg
  exact run_convert_bytes_arg (P := Tryz.prog) _ 36 5 Tryz.underlying36 Tryz.underlying5 w.heap.size 0 1 1 [x] rfl (fun i hi => by
    have : i = 0 := by omega
    subst this
    show (w.alloc _).cell? _ = _
    rw [World.cell?_alloc_mark]
    rfl) 9 Tryz.underlying9
theorem dec_conv_later {w W : World} {t : TypeId} {x : Int} (hb : RowKit.Below (w.alloc (.cells #[.int .u8 x] t)).drew.heap.size (w.alloc (.cells #[.int .u8 x] t)).drew W) (g : Nat) (hg : g = w.heap.size) :
    (convert 36 9 (.slice (some ⟨g, 0, none⟩) 1 1)).run Tryz.prog W = .ok (.string ⟨#[UInt8.ofNat x.toNat]⟩) W := by
  subst hg
  exact run_convert_bytes_arg (P := Tryz.prog) W 36 5 Tryz.underlying36 Tryz.underlying5 w.heap.size 0 1 1 [x] rfl (fun i hi => by
    have : i = 0 := by omega
    subst this
    rw [hb.cell (by show w.heap.size < (w.alloc _).heap.size; rw [World.size_alloc]; exact Nat.lt_succ_self _)]
    show (w.alloc _).cell? _ = _
    rw [World.cell?_alloc_mark]
    rfl) 9 Tryz.underlying9
theorem dec_one {n : Int} (h0 : 0 ≤ n) (h1 : n < 10) : Lib.itoa n = [UInt8.ofNat (48 + n).toNat] := by
  obtain ⟨u, rfl⟩ := Int.eq_ofNat_of_zero_le h0
  rw [Lib.itoa_nonneg, Lib.decDigits_one (by omega)]
  congr 2
theorem dec_step {n : Int} (h0 : 10 ≤ n) : Lib.itoa n = Lib.itoa (n / 10) ++ [UInt8.ofNat (48 + n % 10).toNat] := by
  obtain ⟨u, rfl⟩ := Int.eq_ofNat_of_zero_le (show 0 ≤ n by omega)
  have e : ((u : Int) / 10) = ((u / 10 : Nat) : Int) := by omega
  rw [e, Lib.itoa_nonneg, Lib.itoa_nonneg, Lib.decDigits, dif_neg (by omega)]
  congr 3
theorem dec_minus {n : Int} (h1 : n < 0) : Lib.itoa n = 45 :: Lib.itoa (-n) := by
  obtain ⟨u, hu⟩ := Int.eq_ofNat_of_zero_le (show 0 ≤ -n by omega)
  have e : n = -(u : Int) := by omega
  subst e
  rw [Lib.itoa_neg u (by omega), Int.neg_neg, Lib.itoa_nonneg]
theorem dec_b1 {w W1 : World} (h : RowKit.Below w.drew.heap.size w.drew W1) (o : Obj) : RowKit.Below w.heap.size w (W1.alloc o) :=
  RowKit.Below.alloc (((RowKit.Below.refl _ w).drew).trans h) h.size o
theorem dec_b2 {w W1 : World} {o : Obj} (h : RowKit.Below (w.alloc o).drew.heap.size (w.alloc o).drew W1) : RowKit.Below w.heap.size w W1 :=
  (((RowKit.Below.refl _ w).alloc (Nat.le_refl _) o).drew).trans (h.mono (by show w.heap.size ≤ (w.alloc o).heap.size; rw [World.size_alloc]; omega))
theorem dec_app (a b : List UInt8) : (⟨a.toArray⟩ ++ ⟨b.toArray⟩ : ByteArray) = ⟨(a ++ b).toArray⟩ := by
  apply ByteArray.ext
  simp
set_option maxHeartbeats 800000 in
set_option maxRecDepth 1000000 in
theorem dec_small (n : Int) (w : World) (h0 : 0 ≤ n) (h1 : n < 10) : Calls Tryz.prog 104 #[.int .i64 n] w fun e w' => e = .returned (bv (Lib.itoa n)) ∧ RowKit.Below w.heap.size w w' := by
  have hA : ¬ n < -9223372036854775807 := by omega
  have hB : ¬ n < 0 := by omega
  have hcv := dec_conv
  have hcv2 := dec_conv_drew
  have hw := dec_one h0 h1
  go_enter Tryz.func104, Tryz.ntmps104
  go_wp2_with (first | (go_at_call 104; fail))
  all_goals go_ret
  all_goals exact ⟨rfl, RowKit.Below.alloc (RowKit.Below.refl _ _) (Nat.le_refl _) _⟩
set_option maxHeartbeats 3200000 in
set_option maxRecDepth 1000000 in
theorem dec_big (n : Int) (w : World) (h0 : 10 ≤ n) (h1 : n ≤ 9223372036854775807) (l : List UInt8) (hl : l.length ≤ 21) (ih : ∀ w, Calls Tryz.prog 104 #[.int .i64 (n / 10)] w fun e w' => e = .returned (.string ⟨l.toArray⟩) ∧ RowKit.Below w.heap.size w w') : Calls Tryz.prog 104 #[.int .i64 n] w fun e w' => e = .returned (.string ⟨(l ++ [UInt8.ofNat (48 + n % 10).toNat]).toArray⟩) ∧ RowKit.Below w.heap.size w w' := by
  have hA : ¬ n < -9223372036854775807 := by omega
  have hB : ¬ n < 0 := by omega
  have hC : ¬ n < 10 := by omega
  have hD : n.tdiv 10 = n / 10 := Int.tdiv_eq_ediv_of_nonneg (by omega)
  have hM : n.tmod 10 = n % 10 := Int.tmod_eq_emod_of_nonneg (by omega)
  have hL : ¬ 9223372036854775807 < l.length + 1 := by omega
  have hW1 : IntKind.i64.wrap (n / 10) = n / 10 := by apply wrap_of_range <;> simp only [IntKind.min, IntKind.max, IntKind.signed, IntKind.bits] <;> simp <;> omega
  have hW2 : IntKind.i64.wrap (48 + n % 10) = 48 + n % 10 := by apply wrap_of_range <;> simp only [IntKind.min, IntKind.max, IntKind.signed, IntKind.bits] <;> simp <;> omega
  have hW3 : IntKind.u8.wrap (48 + n % 10) = 48 + n % 10 := by apply wrap_of_range <;> simp only [IntKind.min, IntKind.max, IntKind.signed, IntKind.bits] <;> simp <;> omega
  have hcv := dec_conv
  have hcv2 := dec_conv_drew
  go_enter Tryz.func104, Tryz.ntmps104
  go_wp2_with (first | (go_at_call 104; fail))
  all_goals (go_region_with ((go_at_call 104; refine (ih _).mono ?_; rintro e W1 ⟨rfl, hb1⟩; try have hk : (convert 36 9 (.slice (some ⟨w.heap.size, 0, none⟩) 1 1)).run Tryz.prog W1 = _ := dec_conv_later hb1 _ rfl)))
  all_goals go_wp2
  all_goals go_ret
  all_goals refine ⟨congrArg (fun s => Ending.returned (.string s)) (dec_app l [UInt8.ofNat (48 + n % 10).toNat]), ?_⟩
  · exact dec_b1 hb1 _
  · exact dec_b2 hb1
  · exact dec_b2 hb1
set_option maxHeartbeats 800000 in
set_option maxRecDepth 1000000 in
theorem dec_neg (n : Int) (w : World) (h0 : -9223372036854775807 ≤ n) (h1 : n < 0) (hl : (Lib.itoa (-n)).length ≤ 21) (ih : ∀ w, Calls Tryz.prog 104 #[.int .i64 (-n)] w fun e w' => e = .returned (.string ⟨(Lib.itoa (-n)).toArray⟩) ∧ RowKit.Below w.heap.size w w') : Calls Tryz.prog 104 #[.int .i64 n] w fun e w' => e = .returned (bv (45 :: Lib.itoa (-n))) ∧ RowKit.Below w.heap.size w w' := by
  have hA : ¬ n < -9223372036854775807 := by omega
  have hB : n < 0 := h1
  have hL : ¬ 9223372036854775807 < 1 + (Lib.itoa (-n)).length := by omega
  unfold bv
  go_enter Tryz.func104, Tryz.ntmps104
  go_wp2_with (first | (go_at_call 104; refine (ih _).mono ?_; rintro e W1 ⟨rfl, hb1⟩))
  all_goals go_ret
  all_goals exact ⟨by congr 2, hb1⟩
set_option maxHeartbeats 800000 in
set_option maxRecDepth 1000000 in
theorem dec_least (w : World) : Calls Tryz.prog 104 #[.int .i64 (-9223372036854775808)] w fun e w' => e = .returned (bv (Lib.itoa (-9223372036854775808))) ∧ RowKit.Below w.heap.size w w' := by
  have hw : Lib.itoa (-9223372036854775808) = "-9223372036854775808".toUTF8.data.toList := by decide +kernel
  rw [hw]
  go_enter Tryz.func104, Tryz.ntmps104
  go_wp2_with (first | (go_at_call 104; fail))
  all_goals go_ret
  all_goals exact ⟨rfl, RowKit.Below.refl _ _⟩
theorem dec_pos : ∀ (b : Nat) (n : Int) (w : World), 0 ≤ n → n ≤ 9223372036854775807 → n ≤ b → Calls Tryz.prog 104 #[.int .i64 n] w fun e w' => e = .returned (bv (Lib.itoa n)) ∧ RowKit.Below w.heap.size w w'
  | b, n, w, h0, h1, hb => by
    by_cases h : n < 10
    · exact dec_small n w h0 h
    · cases b with
      | zero => exact absurd hb (by omega)
      | succ b =>
        refine (dec_big n w (by omega) h1 (Lib.itoa (n / 10)) (Lib.itoa_length_le _ (by omega) (by omega)) fun w' => dec_pos b (n / 10) w' (by omega) (by omega) (by omega)).mono ?_
        rintro e w' ⟨rfl, hB⟩
        refine ⟨?_, hB⟩
        rw [dec_step (n := n) (by omega)]
        rfl
theorem dec_walk (n : Int) (w : World) (h0 : -9223372036854775808 ≤ n) (h1 : n ≤ 9223372036854775807) : Calls Tryz.prog 104 #[.int .i64 n] w fun e w' => e = .returned (bv (Lib.itoa n)) ∧ RowKit.Below w.heap.size w w' := by
  by_cases hp : 0 ≤ n
  · exact dec_pos n.toNat n w hp h1 (by omega)
  · by_cases hm : n = -9223372036854775808
    · subst hm; exact dec_least w
    · rw [dec_minus (by omega)]
      exact dec_neg n w (by omega) (by omega) (Lib.itoa_length_le _ (by omega) (by omega)) fun w' => dec_pos (-n).toNat (-n) w' (by omega) (by omega) (by omega)
theorem con_l6Dec (lv : LibV) : ConOK Tryz.prog (glb ++ lib lv) 104 sg_l6Dec SP_l6Dec := conOK_itoa fun n w _ h0 h1 => dec_walk n w h0 h1
def sg_l7Cut : Sig := { args := [.s (.e (.var 0)), .s (.e (.var 1))], pre := [], tin := [.str, .int .u8], gin := [], res := .c (.s (.e (.var 0))), post := [], tout := [.sl, .rowC [.str]], gout := [(0, 1, 1)] }
def cl_l7Cut : List (Nat × Sig) := []
theorem run_l7Cut : (fun H : List (Nat × List Sc) => run ⟨Tryz.prog, glb ++ H, cl_l7Cut⟩ [(0, ⟨[(7, .int .i64), (6, .int .i64), (5, .sl)], [], some (2, .rowC [.str], 1, 9)⟩)] Tryz.f113 sg_l7Cut (Tryz.f113.body.getD .skip)) = fun _ => tr_l7Cut := by kernel_rfl
theorem om_l7Cut (lv : LibV) : ΩOK ⟨Tryz.prog, (glb ++ lib lv), cl_l7Cut⟩ (specsOf Fs_l7Cut) := ΩOK_nil
theorem con_l7Cut (lv : LibV) : ConOK Tryz.prog (glb ++ lib lv) 113 sg_l7Cut SP_l7Cut := conOK_of (om_l7Cut lv) mixed Tryz.func113 (by kernel_rfl) (congrFun run_l7Cut (lib lv)) (fun ins K ht h => sat_l7Cut Tryz.prog ins K ht h)
def sg_l7Number : Sig := { args := [.s (.e (.var 0))], pre := [], tin := [.str], gin := [], res := .tu [.s (.e (.var 0)), .s (.e (.var 1))], post := [], tout := [.int .i64, .bool], gout := [] }
def cl_l7Number : List (Nat × Sig) := [(153, sg_l6In), (104, sg_l6Dec)]
theorem run_l7Number : (fun H : List (Nat × List Sc) => run ⟨Tryz.prog, glb ++ H, cl_l7Number⟩ [(0, ⟨[(6, .int .i64), (5, .int .i64), (4, .int .i64)], [], none⟩)] Tryz.f156 sg_l7Number (Tryz.f156.body.getD .skip)) = fun _ => tr_l7Number := by kernel_rfl
theorem om_l7Number (lv : LibV) : ΩOK ⟨Tryz.prog, (glb ++ lib lv), cl_l7Number⟩ Ss_l7Number := (ΩOK_consS (cong_l6In lv) Tryz.call153 (ΩOK_consS (con_l6Dec lv) Tryz.call104 ΩOK_nilS))
theorem con_l7Number (lv : LibV) : ConOK Tryz.prog (glb ++ lib lv) 156 sg_l7Number SP_l7Number := conOK_of (om_l7Number lv) mixed Tryz.func156 (by kernel_rfl) (congrFun run_l7Number (lib lv)) (fun ins K ht h => sat_l7Number Tryz.prog ins K ht h)
def sg_l7One : Sig := { args := [.s (.e (.var 0))], pre := [], tin := [.str], gin := [], res := .tu [.ag [.e (.var 0), .e (.var 1)], .s (.e (.var 2))], post := [], tout := [.int .u8, .sl, .bool, .row .i64 1], gout := [(1, 3, 1)] }
def cl_l7One : List (Nat × Sig) := [(113, sg_l7Cut), (156, sg_l7Number), (103, sg_l5Direction), (153, sg_l6In)]
theorem run_l7One : (fun H : List (Nat × List Sc) => run ⟨Tryz.prog, glb ++ H, cl_l7One⟩ [(0, ⟨[(6, .int .i64)], [(1, 1, .sl)], some (1, .row .i64 1, 1, 3)⟩)] Tryz.f114 sg_l7One (Tryz.f114.body.getD .skip)) = fun _ => tr_l7One := by kernel_rfl
theorem om_l7One (lv : LibV) : ΩOK ⟨Tryz.prog, (glb ++ lib lv), cl_l7One⟩ Ss_l7One := (ΩOK_consS (con_l7Cut lv) Tryz.call113 (ΩOK_consS (con_l7Number lv) Tryz.call156 (ΩOK_consS (cong_l5Direction lv) Tryz.call103 (ΩOK_consS (cong_l6In lv) Tryz.call153 ΩOK_nilS))))
theorem con_l7One (lv : LibV) : ConOK Tryz.prog (glb ++ lib lv) 114 sg_l7One SP_l7One := conOK_of (om_l7One lv) mixed Tryz.func114 (by kernel_rfl) (congrFun run_l7One (lib lv)) (fun ins K ht h => sat_l7One Tryz.prog ins K ht h)
def sg_l7Bench : Sig := { args := [.s (.e (.var 0))], pre := [], tin := [.str], gin := [], res := .tu [.s (.e (.var 0)), .s (.e (.var 1))], post := [], tout := [.sl, .bool, .rowC [.int .u8, .fat .i64 1]], gout := [(0, 2, 2)] }
def cl_l7Bench : List (Nat × Sig) := [(113, sg_l7Cut), (114, sg_l7One)]
theorem run_l7Bench : (fun H : List (Nat × List Sc) => run ⟨Tryz.prog, glb ++ H, cl_l7Bench⟩ [(0, ⟨[(6, .int .i64), (4, .sl)], [], some (1, .rowC [.int .u8, .fat .i64 1], 2, 93)⟩)] Tryz.f51 sg_l7Bench (Tryz.f51.body.getD .skip)) = fun _ => tr_l7Bench := by kernel_rfl
theorem om_l7Bench (lv : LibV) : ΩOK ⟨Tryz.prog, (glb ++ lib lv), cl_l7Bench⟩ Ss_l7Bench := (ΩOK_consS (con_l7Cut lv) Tryz.call113 (ΩOK_consS (con_l7One lv) Tryz.call114 ΩOK_nilS))
theorem con_l7Bench (lv : LibV) : ConOK Tryz.prog (glb ++ lib lv) 51 sg_l7Bench SP_l7Bench := conOK_of (om_l7Bench lv) mixed Tryz.func51 (by kernel_rfl) (congrFun run_l7Bench (lib lv)) (fun ins K ht h => sat_l7Bench Tryz.prog ins K ht h)
def sg_readPiece : Sig := { args := [.s (.e (.var 0))], pre := [], tin := [.str], gin := [], res := .tu [.ag [.e (.var 0), .e (.var 1), .e (.var 2)], .s (.e (.var 3))], post := [], tout := [.int .u8, .sl, .str, .bool, .row .i64 1], gout := [(1, 4, 1)] }
def cl_readPiece : List (Nat × Sig) := [(122, sg_Split), (164, sg_plainNumber), (101, sg_direction), (142, sg_within)]
theorem run_readPiece : (fun H : List (Nat × List Sc) => run ⟨Tryz.prog, glb ++ H, cl_readPiece⟩ [(0, ⟨[(25, .int .i64)], [(1, 1, .sl)], some (1, .row .i64 1, 1, 3)⟩)] Tryz.f123 sg_readPiece (Tryz.f123.body.getD .skip)) = fun _ => tr_readPiece := by kernel_rfl
theorem om_readPiece (lv : LibV) : ΩOK ⟨Tryz.prog, (glb ++ lib lv), cl_readPiece⟩ Ss_readPiece := (ΩOK_consS (con_Split lv) Tryz.call122 (ΩOK_consS (con_plainNumber lv) Tryz.call164 (ΩOK_consS (cong_direction lv) Tryz.call101 (ΩOK_consS (cong_within lv) Tryz.call142 ΩOK_nilS))))
theorem con_readPiece (lv : LibV) : ConOK Tryz.prog (glb ++ lib lv) 123 sg_readPiece SP_readPiece := conOK_of (om_readPiece lv) mixed Tryz.func123 (by kernel_rfl) (congrFun run_readPiece (lib lv)) (fun ins K ht h => sat_readPiece Tryz.prog ins K ht h)
def sg_readBench : Sig := { args := [.s (.e (.var 0))], pre := [], tin := [.str], gin := [], res := .tu [.s (.e (.var 0)), .s (.e (.var 1))], post := [], tout := [.sl, .bool, .rowC [.int .u8, .fat .i64 1, .str]], gout := [(0, 2, 3)], gown := some (0, 2, 3, 100) }
def cl_readBench : List (Nat × Sig) := [(122, sg_Split), (123, sg_readPiece)]
theorem run_readBench : (fun H : List (Nat × List Sc) => run ⟨Tryz.prog, glb ++ H, cl_readBench⟩ [(0, ⟨[(16, .int .i64), (4, .sl)], [], some (1, .rowC [.int .u8, .fat .i64 1, .str], 3, 100)⟩)] Tryz.f56 sg_readBench (Tryz.f56.body.getD .skip)) = fun _ => tr_readBench := by kernel_rfl
theorem om_readBench (lv : LibV) : ΩOK ⟨Tryz.prog, (glb ++ lib lv), cl_readBench⟩ Ss_readBench := (ΩOK_consS (con_Split lv) Tryz.call122 (ΩOK_consS (con_readPiece lv) Tryz.call123 ΩOK_nilS))
theorem con_readBench (lv : LibV) : ConOK Tryz.prog (glb ++ lib lv) 56 sg_readBench SP_readBench := conOK_of (om_readBench lv) mixed Tryz.func56 (by kernel_rfl) (congrFun run_readBench (lib lv)) (fun ins K ht h => sat_readBench Tryz.prog ins K ht h)
def sg_ofG : Sig := { args := [.s (.p (.own 0) 0), .s (.e (.var 0))], pre := [⟨[.e (.var 1), .e (.var 2)], 162⟩], tin := [.sl, .sl, .int .i64, .rowC [.str]], gin := [(0, 3, 1)], res := .c (.s (.e (.var 0))), post := [⟨[.e (.var 1), .e (.var 2)], 162⟩], tout := [.str, .sl, .int .i64], gout := [] }
def cl_ofG : List (Nat × Sig) := [(105, sg_pickC)]
theorem run_ofG : (fun H : List (Nat × List Sc) => run ⟨Tryz.prog, glb ++ H, cl_ofG⟩ [] Tryz.f128 sg_ofG (Tryz.f128.body.getD .skip)) = fun _ => tr_ofG := by kernel_rfl
theorem om_ofG (lv : LibV) {cb : CodeB} (hk : CodeOk cb) (hG : Known cb (glb ++ lib lv ++ cb.tail)) : ΩOK ⟨Tryz.prog, glb ++ lib lv ++ cb.tail, cl_ofG⟩ (Ss_ofG cb) := (ΩOK_consS (con_pickC lv hk hG) Tryz.call105 ΩOK_nilS)
theorem con_ofG (lv : LibV) {cb : CodeB} (hk : CodeOk cb) (hG : Known cb (glb ++ lib lv ++ cb.tail)) : ConOK Tryz.prog (glb ++ lib lv ++ cb.tail) 128 sg_ofG (SP_ofG cb) := conOK_of (om_ofG lv hk hG) mixed Tryz.func128 (by kernel_rfl) (congrFun run_ofG (lib lv ++ cb.tail)) (fun ins K ht h => sat_ofG Tryz.prog cb hk ins K ht h)
def sg_ofC : Sig := { args := [.s (.p (.own 0) 0), .s (.sl (.own 1) 0 8 8)], pre := [⟨[.e (.var 0), .e (.var 1)], 162⟩, ⟨[.e (.var 2), .e (.var 3), .e (.var 4), .e (.var 5), .e (.var 6), .e (.var 7), .e (.var 8), .e (.var 9)], 9⟩], tin := [.sl, .int .i64, .str, .str, .str, .str, .str, .str, .str, .str], gin := [], res := .c (.s (.e (.var 0))), post := [⟨[.e (.var 1), .e (.var 2)], 162⟩, ⟨[.e (.var 3), .e (.var 4), .e (.var 5), .e (.var 6), .e (.var 7), .e (.var 8), .e (.var 9), .e (.var 10)], 9⟩], tout := [.str, .sl, .int .i64, .str, .str, .str, .str, .str, .str, .str, .str], gout := [] }
theorem con_ofC (lv : LibV) {cb : CodeB} (hk : CodeOk cb) (hG : Known cb (glb ++ lib lv ++ cb.tail)) : ConOK Tryz.prog (glb ++ lib lv ++ cb.tail) 128 sg_ofC (SP_ofC cb) := conOK_of8d (t := 162) (ts := 9) (con_ofG lv hk hG)
def sg_l92Piece : Sig := { args := [.s (.p (.own 0) 0), .s (.e (.var 0))], pre := [⟨[.e (.var 1), .e (.var 2)], 162⟩], tin := [.bool, .sl, .int .i64], gin := [], res := .c (.s (.e (.var 0))), post := [⟨[.e (.var 1), .e (.var 2)], 162⟩], tout := [.str, .sl, .int .i64], gout := [] }
def cl_l92Piece : List (Nat × Sig) := [(105, sg_pickC), (104, sg_l6Dec)]
theorem run_l92Piece : (fun H : List (Nat × List Sc) => run ⟨Tryz.prog, glb ++ H, cl_l92Piece⟩ [] Tryz.f127 sg_l92Piece (Tryz.f127.body.getD .skip)) = fun _ => tr_l92Piece := by kernel_rfl
theorem om_l92Piece (lv : LibV) {cb : CodeB} (hk : CodeOk cb) (hG : Known cb (glb ++ lib lv ++ cb.tail)) : ΩOK ⟨Tryz.prog, glb ++ lib lv ++ cb.tail, cl_l92Piece⟩ (Ss_l92Piece cb) := (ΩOK_consS (con_pickC lv hk hG) Tryz.call105 (ΩOK_consS (con_l6Dec lv).more Tryz.call104 ΩOK_nilS))
theorem con_l92Piece (lv : LibV) {cb : CodeB} (hk : CodeOk cb) (hG : Known cb (glb ++ lib lv ++ cb.tail)) : ConOK Tryz.prog (glb ++ lib lv ++ cb.tail) 127 sg_l92Piece (SP_l92Piece cb) := conOK_of (om_l92Piece lv hk hG) mixed Tryz.func127 (by kernel_rfl) (congrFun run_l92Piece (lib lv ++ cb.tail)) (fun ins K ht h => sat_l92Piece Tryz.prog cb hk ins K ht h)
def sg_l92Bench : Sig := { args := [.s (.p (.own 0) 0), .s (.e (.var 0))], pre := [⟨[.e (.var 1), .e (.var 2)], 162⟩], tin := [.bool, .sl, .int .i64], gin := [], res := .c (.s (.e (.var 0))), post := [⟨[.e (.var 1), .e (.var 2)], 162⟩], tout := [.str, .sl, .int .i64], gout := [] }
def cl_l92Bench : List (Nat × Sig) := [(105, sg_pickC), (127, sg_l92Piece), (128, sg_ofC)]
theorem run_l92Bench : (fun H : List (Nat × List Sc) => run ⟨Tryz.prog, glb ++ H, cl_l92Bench⟩ [(0, ⟨[(7, .int .i64), (5, .str)], [(0, 0, .sl), (0, 1, .int .i64)], none⟩)] Tryz.f61 sg_l92Bench (Tryz.f61.body.getD .skip)) = fun _ => tr_l92Bench := by kernel_rfl
theorem om_l92Bench (lv : LibV) {cb : CodeB} (hk : CodeOk cb) (hG : Known cb (glb ++ lib lv ++ cb.tail)) : ΩOK ⟨Tryz.prog, glb ++ lib lv ++ cb.tail, cl_l92Bench⟩ (Ss_l92Bench cb) := (ΩOK_consS (con_pickC lv hk hG) Tryz.call105 (ΩOK_consS (con_l92Piece lv hk hG) Tryz.call127 (ΩOK_consS (con_ofC lv hk hG) Tryz.call128 ΩOK_nilS)))
theorem con_l92Bench (lv : LibV) {cb : CodeB} (hk : CodeOk cb) (hG : Known cb (glb ++ lib lv ++ cb.tail)) : ConOK Tryz.prog (glb ++ lib lv ++ cb.tail) 61 sg_l92Bench (SP_l92Bench cb) := conOK_of (om_l92Bench lv hk hG) mixed Tryz.func61 (by kernel_rfl) (congrFun run_l92Bench (lib lv ++ cb.tail)) (fun ins K ht h => sat_l92Bench Tryz.prog cb hk ins K ht h)
def sg_opposite : Sig := { args := [.ag [.e (.var 0), .e (.var 1), .e (.var 2)]], pre := [], tin := [.int .i64, .int .i64, .int .i64], gin := [], res := .c (.ag [.e (.var 0), .e (.var 1), .e (.var 2)]), post := [], tout := [.int .i64, .int .i64, .int .i64], gout := [] }
def cl_opposite : List (Nat × Sig) := []
theorem run_opposite : (fun H : List (Nat × List Sc) => run ⟨Tryz.prog, glb ++ H, cl_opposite⟩ [] Tryz.f165 sg_opposite (Tryz.f165.body.getD .skip)) = fun _ => tr_opposite := by kernel_rfl
theorem om_opposite (lv : LibV) : ΩOK ⟨Tryz.prog, (glb ++ lib lv), cl_opposite⟩ (specsOf Fs_opposite) := ΩOK_nil
theorem con_opposite (lv : LibV) : ConOK Tryz.prog (glb ++ lib lv) 165 sg_opposite F_opposite.spec := conOK_tree (om_opposite lv) mixed Tryz.func165 (by kernel_rfl) (congrFun run_opposite (lib lv))
def sg_iMatRotator : Sig := { args := [.s (.e (.var 0)), .s (.e (.var 1))], pre := [], tin := [.int .i64, .int .i64], gin := [], res := .tu [.ag [.e (.var 0), .e (.var 1), .e (.var 2), .e (.var 3), .e (.var 4), .e (.var 5), .e (.var 6), .e (.var 7), .e (.var 8), .e (.var 9), .e (.var 10), .e (.var 11)], .s (.e (.var 12))], post := [], tout := [.int .i64, .int .i64, .int .i64, .int .i64, .int .i64, .int .i64, .int .i64, .int .i64, .int .i64, .int .i64, .int .i64, .int .i64, .bool], gout := [] }
def cl_iMatRotator : List (Nat × Sig) := [(101, sg_direction), (165, sg_opposite)]
theorem run_iMatRotator : (fun H : List (Nat × List Sc) => run ⟨Tryz.prog, glb ++ H, cl_iMatRotator⟩ [] Tryz.f130 sg_iMatRotator (Tryz.f130.body.getD .skip)) = fun _ => tr_iMatRotator := by kernel_rfl
theorem om_iMatRotator (lv : LibV) : ΩOK ⟨Tryz.prog, (glb ++ lib lv), cl_iMatRotator⟩ (specsOf Fs_iMatRotator) := (ΩOK_cons (cong_direction lv) Tryz.call101 (ΩOK_cons (con_opposite lv) Tryz.call165 ΩOK_nil))
theorem con_iMatRotator (lv : LibV) : ConOK Tryz.prog (glb ++ lib lv) 130 sg_iMatRotator F_iMatRotator.spec := conOK_tree (om_iMatRotator lv) mixed Tryz.func130 (by kernel_rfl) (congrFun run_iMatRotator (lib lv))
theorem cong_iMatRotator (lv : LibV) : ConOK Tryz.prog (glb ++ lib lv) 130 sg_iMatRotator G_iMatRotator.spec := (con_iMatRotator lv).as as_iMatRotator
def sg_iMatAdjoint : Sig := { args := [.ag [.e (.var 0), .e (.var 1), .e (.var 2), .e (.var 3), .e (.var 4), .e (.var 5), .e (.var 6), .e (.var 7), .e (.var 8), .e (.var 9), .e (.var 10), .e (.var 11)]], pre := [], tin := [.int .i64, .int .i64, .int .i64, .int .i64, .int .i64, .int .i64, .int .i64, .int .i64, .int .i64, .int .i64, .int .i64, .int .i64], gin := [], res := .tu [.ag [.e (.var 0), .e (.var 1), .e (.var 2), .e (.var 3), .e (.var 4), .e (.var 5), .e (.var 6), .e (.var 7), .e (.var 8), .e (.var 9), .e (.var 10), .e (.var 11)], .s (.e (.var 12))], post := [], tout := [.int .i64, .int .i64, .int .i64, .int .i64, .int .i64, .int .i64, .int .i64, .int .i64, .int .i64, .int .i64, .int .i64, .int .i64, .bool], gout := [] }
def cl_iMatAdjoint : List (Nat × Sig) := [(73, sg_mirror), (108, sg_gotMat)]
theorem run_iMatAdjoint : (fun H : List (Nat × List Sc) => run ⟨Tryz.prog, glb ++ H, cl_iMatAdjoint⟩ [] Tryz.f44 sg_iMatAdjoint (Tryz.f44.body.getD .skip)) = fun _ => tr_iMatAdjoint := by kernel_rfl
theorem om_iMatAdjoint (lv : LibV) : ΩOK ⟨Tryz.prog, (glb ++ lib lv), cl_iMatAdjoint⟩ (specsOf Fs_iMatAdjoint) := (ΩOK_cons (cong_mirror lv) Tryz.call73 (ΩOK_cons (cong_gotMat lv) Tryz.call108 ΩOK_nil))
theorem con_iMatAdjoint (lv : LibV) : ConOK Tryz.prog (glb ++ lib lv) 44 sg_iMatAdjoint F_iMatAdjoint.spec := conOK_tree (om_iMatAdjoint lv) mixed Tryz.func44 (by kernel_rfl) (congrFun run_iMatAdjoint (lib lv))
theorem cong_iMatAdjoint (lv : LibV) : ConOK Tryz.prog (glb ++ lib lv) 44 sg_iMatAdjoint G_iMatAdjoint.spec := (con_iMatAdjoint lv).as as_iMatAdjoint
def sg_iMatPlate : Sig := { args := [.s (.e (.var 0)), .s (.e (.var 1)), .s (.e (.var 2))], pre := [], tin := [.int .i64, .int .i64, .int .i64], gin := [], res := .tu [.ag [.e (.var 0), .e (.var 1), .e (.var 2), .e (.var 3), .e (.var 4), .e (.var 5), .e (.var 6), .e (.var 7), .e (.var 8), .e (.var 9), .e (.var 10), .e (.var 11)], .s (.e (.var 12))], post := [], tout := [.int .i64, .int .i64, .int .i64, .int .i64, .int .i64, .int .i64, .int .i64, .int .i64, .int .i64, .int .i64, .int .i64, .int .i64, .bool], gout := [] }
def cl_iMatPlate : List (Nat × Sig) := [(130, sg_iMatRotator), (142, sg_within), (45, sg_iMatTimes), (44, sg_iMatAdjoint)]
theorem run_iMatPlate : (fun H : List (Nat × List Sc) => run ⟨Tryz.prog, glb ++ H, cl_iMatPlate⟩ [] Tryz.f131 sg_iMatPlate (Tryz.f131.body.getD .skip)) = fun _ => tr_iMatPlate := by kernel_rfl
theorem om_iMatPlate (lv : LibV) : ΩOK ⟨Tryz.prog, (glb ++ lib lv), cl_iMatPlate⟩ (specsOf Fs_iMatPlate) := (ΩOK_cons (cong_iMatRotator lv) Tryz.call130 (ΩOK_cons (cong_within lv) Tryz.call142 (ΩOK_cons (cong_iMatTimes lv) Tryz.call45 (ΩOK_cons (cong_iMatAdjoint lv) Tryz.call44 ΩOK_nil))))
theorem con_iMatPlate (lv : LibV) : ConOK Tryz.prog (glb ++ lib lv) 131 sg_iMatPlate SP_iMatPlate := conOK_of (om_iMatPlate lv) mixed Tryz.func131 (by kernel_rfl) (congrFun run_iMatPlate (lib lv)) (fun ins K ht h => sat_iMatPlate Tryz.prog ins K ht h)
def sg_iMatFilter : Sig := { args := [.s (.e (.var 0)), .s (.e (.var 1))], pre := [], tin := [.int .i64, .int .i64], gin := [], res := .tu [.ag [.e (.var 0), .e (.var 1), .e (.var 2), .e (.var 3), .e (.var 4), .e (.var 5), .e (.var 6), .e (.var 7), .e (.var 8), .e (.var 9), .e (.var 10), .e (.var 11)], .s (.e (.var 12))], post := [], tout := [.int .i64, .int .i64, .int .i64, .int .i64, .int .i64, .int .i64, .int .i64, .int .i64, .int .i64, .int .i64, .int .i64, .int .i64, .bool], gout := [] }
def cl_iMatFilter : List (Nat × Sig) := [(101, sg_direction), (68, sg_need), (72, sg_times), (108, sg_gotMat)]
theorem run_iMatFilter : (fun H : List (Nat × List Sc) => run ⟨Tryz.prog, glb ++ H, cl_iMatFilter⟩ [] Tryz.f132 sg_iMatFilter (Tryz.f132.body.getD .skip)) = fun _ => tr_iMatFilter := by kernel_rfl
theorem om_iMatFilter (lv : LibV) : ΩOK ⟨Tryz.prog, (glb ++ lib lv), cl_iMatFilter⟩ (specsOf Fs_iMatFilter) := (ΩOK_cons (cong_direction lv) Tryz.call101 (ΩOK_cons (cong_need lv) Tryz.call68 (ΩOK_cons (cong_times lv) Tryz.call72 (ΩOK_cons (cong_gotMat lv) Tryz.call108 ΩOK_nil))))
theorem con_iMatFilter (lv : LibV) : ConOK Tryz.prog (glb ++ lib lv) 132 sg_iMatFilter F_iMatFilter.spec := conOK_tree (om_iMatFilter lv) mixed Tryz.func132 (by kernel_rfl) (congrFun run_iMatFilter (lib lv))
theorem cong_iMatFilter (lv : LibV) : ConOK Tryz.prog (glb ++ lib lv) 132 sg_iMatFilter G_iMatFilter.spec := (con_iMatFilter lv).as as_iMatFilter
def sg_share : Sig := { args := [.ag [.e (.var 0), .e (.var 1), .e (.var 2)]], pre := [], tin := [.int .u8, .sl, .str, .row .i64 1], gin := [(1, 3, 1)], res := .c (.ag [.e (.var 0), .e (.var 1), .e (.var 2)]), post := [], tout := [.int .i64, .int .i64, .int .i64], gout := [] }
def cl_share : List (Nat × Sig) := [(87, sg_lowest)]
theorem run_share : (fun H : List (Nat × List Sc) => run ⟨Tryz.prog, glb ++ H, cl_share⟩ [] Tryz.f125 sg_share (Tryz.f125.body.getD .skip)) = fun _ => tr_share := by kernel_rfl
theorem om_share (lv : LibV) : ΩOK ⟨Tryz.prog, (glb ++ lib lv), cl_share⟩ (specsOf Fs_share) := (ΩOK_cons (cong_lowest lv) Tryz.call87 ΩOK_nil)
theorem con_share (lv : LibV) : ConOK Tryz.prog (glb ++ lib lv) 125 sg_share SP_share := conOK_of (om_share lv) mixed Tryz.func125 (by kernel_rfl) (congrFun run_share (lib lv)) (fun ins K ht h => sat_share Tryz.prog ins K ht h)
def sg_mat : Sig := { args := [.ag [.e (.var 0), .e (.var 1), .e (.var 2)]], pre := [], tin := [.int .u8, .sl, .str, .row .i64 1], gin := [(1, 3, 1)], res := .tu [.ag [.e (.var 0), .e (.var 1), .e (.var 2), .e (.var 3), .e (.var 4), .e (.var 5), .e (.var 6), .e (.var 7), .e (.var 8), .e (.var 9), .e (.var 10), .e (.var 11)], .s (.e (.var 12))], post := [], tout := [.int .i64, .int .i64, .int .i64, .int .i64, .int .i64, .int .i64, .int .i64, .int .i64, .int .i64, .int .i64, .int .i64, .int .i64, .bool], gout := [] }
def cl_mat : List (Nat × Sig) := [(130, sg_iMatRotator), (131, sg_iMatPlate), (132, sg_iMatFilter), (125, sg_share)]
theorem run_mat : (fun H : List (Nat × List Sc) => run ⟨Tryz.prog, glb ++ H, cl_mat⟩ [] Tryz.f67 sg_mat (Tryz.f67.body.getD .skip)) = fun _ => tr_mat := by kernel_rfl
theorem om_mat (lv : LibV) : ΩOK ⟨Tryz.prog, (glb ++ lib lv), cl_mat⟩ Ss_mat := (ΩOK_consS (cong_iMatRotator lv) Tryz.call130 (ΩOK_consS (con_iMatPlate lv) Tryz.call131 (ΩOK_consS (cong_iMatFilter lv) Tryz.call132 (ΩOK_consS (con_share lv) Tryz.call125 ΩOK_nilS))))
theorem con_mat (lv : LibV) : ConOK Tryz.prog (glb ++ lib lv) 67 sg_mat SP_mat := conOK_of (om_mat lv) mixed Tryz.func67 (by kernel_rfl) (congrFun run_mat (lib lv)) (fun ins K ht h => sat_mat Tryz.prog ins K ht h)
def sg_l7Part : Sig := { args := [.ag [.e (.var 0), .e (.var 1)]], pre := [], tin := [.int .u8, .sl, .row .i64 1], gin := [(1, 2, 1)], res := .c (.ag [.e (.var 0), .e (.var 1), .e (.var 2)]), post := [], tout := [.int .i64, .int .i64, .int .i64], gout := [] }
def cl_l7Part : List (Nat × Sig) := [(154, sg_sFracMake)]
theorem run_l7Part : (fun H : List (Nat × List Sc) => run ⟨Tryz.prog, glb ++ H, cl_l7Part⟩ [] Tryz.f117 sg_l7Part (Tryz.f117.body.getD .skip)) = fun _ => tr_l7Part := by kernel_rfl
theorem om_l7Part (lv : LibV) : ΩOK ⟨Tryz.prog, (glb ++ lib lv), cl_l7Part⟩ (specsOf Fs_l7Part) := (ΩOK_cons (cong_sFracMake lv) Tryz.call154 ΩOK_nil)
theorem con_l7Part (lv : LibV) : ConOK Tryz.prog (glb ++ lib lv) 117 sg_l7Part SP_l7Part := conOK_of (om_l7Part lv) mixed Tryz.func117 (by kernel_rfl) (congrFun run_l7Part (lib lv)) (fun ins K ht h => sat_l7Part Tryz.prog ins K ht h)
def sg_l7Mat : Sig := { args := [.ag [.e (.var 0), .e (.var 1)]], pre := [], tin := [.int .u8, .sl, .row .i64 1], gin := [(1, 2, 1)], res := .tu [.ag [.e (.var 0), .e (.var 1), .e (.var 2), .e (.var 3), .e (.var 4), .e (.var 5), .e (.var 6), .e (.var 7), .e (.var 8), .e (.var 9), .e (.var 10), .e (.var 11)], .s (.e (.var 12))], post := [], tout := [.int .i64, .int .i64, .int .i64, .int .i64, .int .i64, .int .i64, .int .i64, .int .i64, .int .i64, .int .i64, .int .i64, .int .i64, .bool], gout := [] }
def cl_l7Mat : List (Nat × Sig) := [(145, sg_sMatRotator), (146, sg_sMatPlate), (147, sg_sMatFilter), (117, sg_l7Part), (90, sg_l5One)]
theorem run_l7Mat : (fun H : List (Nat × List Sc) => run ⟨Tryz.prog, glb ++ H, cl_l7Mat⟩ [] Tryz.f91 sg_l7Mat (Tryz.f91.body.getD .skip)) = fun _ => tr_l7Mat := by kernel_rfl
theorem om_l7Mat (lv : LibV) : ΩOK ⟨Tryz.prog, (glb ++ lib lv), cl_l7Mat⟩ Ss_l7Mat := (ΩOK_consS (cong_sMatRotator lv) Tryz.call145 (ΩOK_consS (con_sMatPlate lv) Tryz.call146 (ΩOK_consS (cong_sMatFilter lv) Tryz.call147 (ΩOK_consS (con_l7Part lv) Tryz.call117 (ΩOK_consS (con_l5One lv) Tryz.call90 ΩOK_nilS)))))
theorem con_l7Mat (lv : LibV) : ConOK Tryz.prog (glb ++ lib lv) 91 sg_l7Mat SP_l7Mat := conOK_of (om_l7Mat lv) mixed Tryz.func91 (by kernel_rfl) (congrFun run_l7Mat (lib lv)) (fun ins K ht h => sat_l7Mat Tryz.prog ins K ht h)
def sg_iBenchMat : Sig := { args := [.s (.e (.var 0))], pre := [], tin := [.str], gin := [], res := .tu [.ag [.e (.var 0), .e (.var 1), .e (.var 2), .e (.var 3), .e (.var 4), .e (.var 5), .e (.var 6), .e (.var 7), .e (.var 8), .e (.var 9), .e (.var 10), .e (.var 11)], .s (.e (.var 12))], post := [], tout := [.int .i64, .int .i64, .int .i64, .int .i64, .int .i64, .int .i64, .int .i64, .int .i64, .int .i64, .int .i64, .int .i64, .int .i64, .bool], gout := [] }
def cl_iBenchMat : List (Nat × Sig) := [(56, sg_readBench), (67, sg_mat), (45, sg_iMatTimes)]
theorem run_iBenchMat : (fun H : List (Nat × List Sc) => run ⟨Tryz.prog, glb ++ H, cl_iBenchMat⟩ [(0, ⟨[(21, .int .i64), (5, .bool)], [(1, 0, .int .i64), (1, 1, .int .i64), (1, 2, .int .i64), (1, 3, .int .i64), (1, 4, .int .i64), (1, 5, .int .i64), (1, 6, .int .i64), (1, 7, .int .i64), (1, 8, .int .i64), (1, 9, .int .i64), (1, 10, .int .i64), (1, 11, .int .i64)], none⟩)] Tryz.f20 sg_iBenchMat (Tryz.f20.body.getD .skip)) = fun _ => tr_iBenchMat := by kernel_rfl
theorem om_iBenchMat (lv : LibV) : ΩOK ⟨Tryz.prog, (glb ++ lib lv), cl_iBenchMat⟩ Ss_iBenchMat := (ΩOK_consS (con_readBench lv) Tryz.call56 (ΩOK_consS (con_mat lv) Tryz.call67 (ΩOK_consS (cong_iMatTimes lv) Tryz.call45 ΩOK_nilS)))
theorem con_iBenchMat (lv : LibV) : ConOK Tryz.prog (glb ++ lib lv) 20 sg_iBenchMat SP_iBenchMat := conOK_of (om_iBenchMat lv) mixed Tryz.func20 (by kernel_rfl) (congrFun run_iBenchMat (lib lv)) (fun ins K ht h => sat_iBenchMat Tryz.prog ins K ht h)
def sg_sBenchMat : Sig := { args := [.s (.e (.var 0))], pre := [], tin := [.str], gin := [], res := .tu [.ag [.e (.var 0), .e (.var 1), .e (.var 2), .e (.var 3), .e (.var 4), .e (.var 5), .e (.var 6), .e (.var 7), .e (.var 8), .e (.var 9), .e (.var 10), .e (.var 11)], .s (.e (.var 12))], post := [], tout := [.int .i64, .int .i64, .int .i64, .int .i64, .int .i64, .int .i64, .int .i64, .int .i64, .int .i64, .int .i64, .int .i64, .int .i64, .bool], gout := [] }
def cl_sBenchMat : List (Nat × Sig) := [(51, sg_l7Bench), (90, sg_l5One), (91, sg_l7Mat), (92, sg_sMatTimes)]
theorem run_sBenchMat : (fun H : List (Nat × List Sc) => run ⟨Tryz.prog, glb ++ H, cl_sBenchMat⟩ [(0, ⟨[(8, .int .i64), (5, .bool)], [(2, 0, .int .i64), (2, 1, .int .i64), (2, 2, .int .i64), (2, 3, .int .i64), (2, 4, .int .i64), (2, 5, .int .i64), (2, 6, .int .i64), (2, 7, .int .i64), (2, 8, .int .i64), (2, 9, .int .i64), (2, 10, .int .i64), (2, 11, .int .i64)], none⟩)] Tryz.f29 sg_sBenchMat (Tryz.f29.body.getD .skip)) = fun _ => tr_sBenchMat := by kernel_rfl
theorem om_sBenchMat (lv : LibV) : ΩOK ⟨Tryz.prog, (glb ++ lib lv), cl_sBenchMat⟩ Ss_sBenchMat := (ΩOK_consS (con_l7Bench lv) Tryz.call51 (ΩOK_consS (con_l5One lv) Tryz.call90 (ΩOK_consS (con_l7Mat lv) Tryz.call91 (ΩOK_consS (cong_sMatTimes lv) Tryz.call92 ΩOK_nilS))))
theorem con_sBenchMat (lv : LibV) : ConOK Tryz.prog (glb ++ lib lv) 29 sg_sBenchMat SP_sBenchMat := conOK_of (om_sBenchMat lv) mixed Tryz.func29 (by kernel_rfl) (congrFun run_sBenchMat (lib lv)) (fun ins K ht h => sat_sBenchMat Tryz.prog ins K ht h)
def sg_iBenchRun : Sig := { args := [.s (.e (.var 0)), .ag [.e (.var 1), .e (.var 2), .e (.var 3), .e (.var 4), .e (.var 5), .e (.var 6)]], pre := [], tin := [.str, .int .i64, .int .i64, .int .i64, .int .i64, .int .i64, .int .i64], gin := [], res := .tu [.ag [.e (.var 0), .e (.var 1), .e (.var 2), .e (.var 3), .e (.var 4), .e (.var 5)], .s (.e (.var 6))], post := [], tout := [.int .i64, .int .i64, .int .i64, .int .i64, .int .i64, .int .i64, .bool], gout := [] }
def cl_iBenchRun : List (Nat × Sig) := [(56, sg_readBench), (95, sg_iJonesValid), (67, sg_mat), (43, sg_iMatApply)]
theorem run_iBenchRun : (fun H : List (Nat × List Sc) => run ⟨Tryz.prog, glb ++ H, cl_iBenchRun⟩ [(0, ⟨[(26, .int .i64), (7, .bool)], [(0, 0, .int .i64), (0, 1, .int .i64), (0, 2, .int .i64), (0, 3, .int .i64), (0, 4, .int .i64), (0, 5, .int .i64)], none⟩)] Tryz.f34 sg_iBenchRun (Tryz.f34.body.getD .skip)) = fun _ => tr_iBenchRun := by kernel_rfl
theorem om_iBenchRun (lv : LibV) : ΩOK ⟨Tryz.prog, (glb ++ lib lv), cl_iBenchRun⟩ Ss_iBenchRun := (ΩOK_consS (con_readBench lv) Tryz.call56 (ΩOK_consS (cong_iJonesValid lv) Tryz.call95 (ΩOK_consS (con_mat lv) Tryz.call67 (ΩOK_consS (cong_iMatApply lv) Tryz.call43 ΩOK_nilS))))
theorem con_iBenchRun (lv : LibV) : ConOK Tryz.prog (glb ++ lib lv) 34 sg_iBenchRun SP_iBenchRun := conOK_of (om_iBenchRun lv) mixed Tryz.func34 (by kernel_rfl) (congrFun run_iBenchRun (lib lv)) (fun ins K ht h => sat_iBenchRun Tryz.prog ins K ht h)
def sg_DrawBenchMat : Sig := { args := [.s (.e (.var 0))], pre := [], tin := [.sl], gin := [], res := .c (.s (.e (.var 0))), post := [], tout := [.str], gout := [] }
def cl_DrawBenchMat : List (Nat × Sig) := [(62, sg_openC), (105, sg_pickC), (61, sg_l92Bench)]
theorem run_DrawBenchMat : (fun H : List (Nat × List Sc) => run ⟨Tryz.prog, glb ++ H, cl_DrawBenchMat⟩ [] Tryz.f42 sg_DrawBenchMat (Tryz.f42.body.getD .skip)) = fun _ => tr_DrawBenchMat := by kernel_rfl
theorem om_DrawBenchMat (lv : LibV) {cb : CodeB} (hk : CodeOk cb) (hG : Known cb (glb ++ lib lv ++ cb.tail)) : ΩOK ⟨Tryz.prog, glb ++ lib lv ++ cb.tail, cl_DrawBenchMat⟩ (Ss_DrawBenchMat cb) := (ΩOK_consS (con_openC lv hk hG) Tryz.call62 (ΩOK_consS (con_pickC lv hk hG) Tryz.call105 (ΩOK_consS (con_l92Bench lv hk hG) Tryz.call61 ΩOK_nilS)))
theorem con_DrawBenchMat (lv : LibV) {cb : CodeB} (hk : CodeOk cb) (hG : Known cb (glb ++ lib lv ++ cb.tail)) : ConOK Tryz.prog (glb ++ lib lv ++ cb.tail) 42 sg_DrawBenchMat (SP_DrawBenchMat cb) := conOK_of (om_DrawBenchMat lv hk hG) mixed Tryz.func42 (by kernel_rfl) (congrFun run_DrawBenchMat (lib lv ++ cb.tail)) (fun ins K ht h => sat_DrawBenchMat Tryz.prog cb hk ins K ht h)
def sg_iMatLossless : Sig := { args := [.ag [.e (.var 0), .e (.var 1), .e (.var 2), .e (.var 3), .e (.var 4), .e (.var 5), .e (.var 6), .e (.var 7), .e (.var 8), .e (.var 9), .e (.var 10), .e (.var 11)]], pre := [], tin := [.int .i64, .int .i64, .int .i64, .int .i64, .int .i64, .int .i64, .int .i64, .int .i64, .int .i64, .int .i64, .int .i64, .int .i64], gin := [], res := .c (.s (.e (.var 0))), post := [], tout := [.bool], gout := [] }
def cl_iMatLossless : List (Nat × Sig) := [(44, sg_iMatAdjoint), (45, sg_iMatTimes)]
theorem run_iMatLossless : (fun H : List (Nat × List Sc) => run ⟨Tryz.prog, glb ++ H, cl_iMatLossless⟩ [] Tryz.f46 sg_iMatLossless (Tryz.f46.body.getD .skip)) = fun _ => tr_iMatLossless := by kernel_rfl
theorem om_iMatLossless (lv : LibV) : ΩOK ⟨Tryz.prog, (glb ++ lib lv), cl_iMatLossless⟩ (specsOf Fs_iMatLossless) := (ΩOK_cons (cong_iMatAdjoint lv) Tryz.call44 (ΩOK_cons (cong_iMatTimes lv) Tryz.call45 ΩOK_nil))
theorem con_iMatLossless (lv : LibV) : ConOK Tryz.prog (glb ++ lib lv) 46 sg_iMatLossless F_iMatLossless.spec := conOK_tree (om_iMatLossless lv) mixed Tryz.func46 (by kernel_rfl) (congrFun run_iMatLossless (lib lv))
theorem cong_iMatLossless (lv : LibV) : ConOK Tryz.prog (glb ++ lib lv) 46 sg_iMatLossless G_iMatLossless.spec := (con_iMatLossless lv).as as_iMatLossless
def sg_FnBenchMat : Sig := { args := [.s (.e (.var 0))], pre := [], tin := [.sl], gin := [], res := .c (.s (.e (.var 0))), post := [], tout := [.bool], gout := [] }
def cl_FnBenchMat : List (Nat × Sig) := [(42, sg_DrawBenchMat), (20, sg_iBenchMat), (29, sg_sBenchMat), (34, sg_iBenchRun), (43, sg_iMatApply), (44, sg_iMatAdjoint), (45, sg_iMatTimes), (46, sg_iMatLossless)]
theorem run_FnBenchMat : (fun H : List (Nat × List Sc) => run ⟨Tryz.prog, glb ++ H, cl_FnBenchMat⟩ [(0, ⟨[(14, .int .i64), (13, .bool)], [], none⟩)] Tryz.f10 sg_FnBenchMat (Tryz.f10.body.getD .skip)) = fun _ => tr_FnBenchMat := by kernel_rfl
theorem om_FnBenchMat (lv : LibV) {cb : CodeB} (hk : CodeOk cb) (hG : Known cb (glb ++ lib lv ++ cb.tail)) : ΩOK ⟨Tryz.prog, glb ++ lib lv ++ cb.tail, cl_FnBenchMat⟩ (Ss_FnBenchMat cb) := (ΩOK_consS (con_DrawBenchMat lv hk hG) Tryz.call42 (ΩOK_consS (con_iBenchMat lv).more Tryz.call20 (ΩOK_consS (con_sBenchMat lv).more Tryz.call29 (ΩOK_consS (con_iBenchRun lv).more Tryz.call34 (ΩOK_consS (cong_iMatApply lv).more Tryz.call43 (ΩOK_consS (cong_iMatAdjoint lv).more Tryz.call44 (ΩOK_consS (cong_iMatTimes lv).more Tryz.call45 (ΩOK_consS (cong_iMatLossless lv).more Tryz.call46 ΩOK_nilS))))))))
theorem con_FnBenchMat (lv : LibV) {cb : CodeB} (hk : CodeOk cb) (hG : Known cb (glb ++ lib lv ++ cb.tail)) : ConOK Tryz.prog (glb ++ lib lv ++ cb.tail) 10 sg_FnBenchMat (lawF cb).spec := conOK_of (om_FnBenchMat lv hk hG) mixed Tryz.func10 (by kernel_rfl) (congrFun run_FnBenchMat (lib lv ++ cb.tail)) (fun ins K ht h => sat_FnBenchMat Tryz.prog cb hk ins K ht h.1 h.2)
end Go.Proofs.YtidldoahiddpgaaGreatDoor
